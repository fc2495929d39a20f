-- Written by a session's own program (wip/tools/myprint.py) over the kit's printer, out of the translation. Not trusted: Lean checks it.
import Derived.Test.YtdebpmdbeogglaaRows
import Derived.Test.YtdebpmdbeogglaaQ17
import Derived.Test.YtdebpmdbeogglaaPureFnExactPlanFault
import Derived.Test.YtdebpmdbeogglaaOpens
import Derived.WalkKit
import Derived.ProofKit
import Derived.OpenShut
import Derived.ShutString
import Derived.ChangeOld
import Derived.Below
import Derived.SizedLaws
import Derived.Test.YtdebpmdbeogglaaWSized
namespace Go.Proofs.Ytdebpmdbeogglaa.fnExactPlanFault
open Go.ChangeShapes Go.WideShapes Go.ChangeAt Go.RowKit Go.Proofs.YtdebpmdbeogglaaW.PrintWords Go.Proofs.Ytdebpmdbeogglaa.Q Go.Proofs.Ytdebpmdbeogglaa.Opens
open Go.ChangeMaps (open_string shut_string)
set_option linter.unusedVariables false
theorem own : ownKnob Try.prog.godebug = none := by kernel_rfl
theorem laidOut : laidOutB Try.prog = true := by kernel_rfl
theorem op0 : Opens Try.prog 36 k36 (fun x : S36 => ((Lit.int .i64 x.f0).wf = true) ∧ ((Lit.int .i64 x.f1).wf = true) ∧ (x.f2.size ≤ maxLen)) := (show Opens _ _ k36 _ from opens_iso (fun x : S36 => (x.f0, x.f1, x.f2)) (fun p => ⟨p.1, p.2.1, p.2.2⟩) (fun _ => rfl) (opens_struct Try.underlying36 (by kernel_rfl) (opens_pair _ rfl rfl (by kernel_rfl) (opens_int Try.underlying3) (opens_pair _ rfl rfl (by kernel_rfl) (opens_int Try.underlying3) (opens_last _ rfl rfl (by kernel_rfl) (opens_string Try.underlying9))))))
theorem op1 : Opens Try.prog 26 (Kd.slice 3 (Kd.int .i64)) (fun x : List Int => ∀ x1_ ∈ x, (Lit.int .i64 x1_).wf = true) := (opens_slice Try.underlying26 (by kernel_rfl) (opens_int Try.underlying3))
theorem op2 : Opens Try.prog 26 (Kd.slice 3 (Kd.int .i64)) (fun x : List Int => ∀ x1_ ∈ x, (Lit.int .i64 x1_).wf = true) := (opens_slice Try.underlying26 (by kernel_rfl) (opens_int Try.underlying3))
theorem op3 : Opens Try.prog 39 k39 (fun x : S39 => ((Lit.int .i64 x.f0).wf = true) ∧ ((Lit.int .i64 x.f1).wf = true) ∧ (∀ x4_ ∈ x.f2, (x4_.f0.length ≤ 9223372036854775807 ∧ ∀ x6_ ∈ x4_.f0, (Lit.int .i64 x6_).wf = true))) := (show Opens _ _ k39 _ from opens_iso (fun x : S39 => (x.f0, x.f1, x.f2)) (fun p => ⟨p.1, p.2.1, p.2.2⟩) (fun _ => rfl) (opens_struct Try.underlying39 (by kernel_rfl) (opens_pair _ rfl rfl (by kernel_rfl) (opens_int Try.underlying3) (opens_pair _ rfl rfl (by kernel_rfl) (opens_int Try.underlying3) (opens_last _ rfl rfl (by kernel_rfl) (opens_slice Try.underlying37 (by kernel_rfl) (show Opens _ _ k86 _ from opens_iso (fun x : S86 => x.f0) (fun p => ⟨p⟩) (fun _ => rfl) (opens_struct Try.underlying86 (by kernel_rfl) (opens_last _ rfl rfl (by kernel_rfl) (opens_sliceL Try.underlying26 (by kernel_rfl) (opens_int Try.underlying3)))))))))))
set_option maxRecDepth 100000 in
theorem lifted (os : Os) (started : os.Started) (H : Type) (enc : TypeId × Value → H) :
    ReturnsInHanded {} Try.checked os 4 .any (Rows.fnExactPlanFaultSpec.pre6 enc Try.prog Try.f4 Rows.fnExactPlanFaultRow.domain false) (Rows.fnExactPlanFaultSpec.post enc Try.prog Try.f4 false true false false) := by
  refine returnsInHanded_of_change_sized (C := Try.checked) own started (by kernel_rfl) Try.func4
    (ChangeSpec.witness6 (enc := enc) (C := Try.checked) false ⟨#[], #[.agg #[.int .i64 0, .int .i64 0, .string ByteArray.empty], .slice none 0 0, .slice none 0 0, .agg #[.int .i64 0, .int .i64 0, .slice none 0 0]], []⟩ 8 (by kernel_rfl) (by kernel_rfl) (by kernel_rfl) (by kernel_rfl)) ?_
  intro W base args ds gs before hval0 hW hcnd hsz0 _
  have hsz : (DataW.weightsEach Try.prog (Try.f4.params.toList ++ Rows.fnExactPlanFaultSpec.plain.varTypes Try.prog) (ds ++ gs)).all (· ≤ reachBytes) = true := hsz0
  have hval : ∀ (j : Nat) t v, Try.f4.params[j]? = some t → args[j]? = some v → Value.okWide Try.prog W .any base t v := hval0
  have hW' := hW
  obtain ⟨p, q, hA0, hV, rfl, hfz, hnd⟩ := hW
  have hA : DataW.TrodAll enc Try.prog W 0 (fun _ => true) true Try.f4.params.toList args.toList ds p := hA0
  rw [Try.params4] at hA hval hsz
  obtain ⟨v0, vs0, d0, ds0, p0, q0, hargs, rfl, rfl, h0, r0⟩ := trodAll_cons hA
  obtain ⟨v1, vs1, d1, ds1, p1, q1, rfl, rfl, rfl, h1, r1⟩ := trodAll_cons r0
  obtain ⟨v2, vs2, d2, ds2, p2, q2, rfl, rfl, rfl, h2, r2⟩ := trodAll_cons r1
  obtain ⟨v3, vs3, d3, ds3, p3, q3, rfl, rfl, rfl, h3, r3⟩ := trodAll_cons r2
  obtain ⟨rfl, rfl, rfl⟩ := trodAll_nil r3
  obtain rfl : args = #[v0, v1, v2, v3] := by cases args; simp_all
  obtain ⟨rfl, rfl⟩ := trodVars_none hV
  obtain ⟨cs0, rfl, hsz0⟩ := okWide_struct Try.underlying36 (hval 0 36 v0 rfl rfl)
  have k0 := h0
  have lt0 : ∀ x ∈ p0, x.block < W.heap.size := by obtain ⟨m, hm⟩ := k0; exact DataW.trod_lt m _ _ _ hm
  obtain ⟨x0, hK0, hg0⟩ := (by obtain ⟨fuel, hf⟩ := h0; exact op0 _ _ _ _ _ _ _ _ _ hf : ∃ x : S36, Kd.K k36 W x cs0.toList ∧ (((Lit.int .i64 x.f0).wf = true) ∧ ((Lit.int .i64 x.f1).wf = true) ∧ (x.f2.size ≤ maxLen)))
  obtain ⟨_, _, ecs0, rfl, ⟨_, _, rfl, rfl, rfl⟩⟩ := hK0
  obtain rfl : cs0 = #[.int .i64 x0.f0, .int .i64 x0.f1, .string x0.f2] := by cases cs0; simp_all
  obtain ⟨a1, len1, cap1, rfl⟩ := okWide_slice Try.underlying26 (hval 1 26 v1 rfl rfl)
  have k1 := h1
  have lt1 : ∀ x ∈ p1, x.block < W.heap.size := by obtain ⟨m, hm⟩ := k1; exact DataW.trod_lt m _ _ _ hm
  obtain ⟨l1, ⟨A1, c1, e1, hc1, hr1⟩, hg1⟩ := (by obtain ⟨fuel, hf⟩ := h1; exact op1 _ _ _ _ _ _ _ _ _ hf : ∃ l : List Int, Kd.K (Kd.slice 3 (Kd.int .i64)) W l (Value.cells (.slice a1 len1 cap1)).toList ∧ (∀ x1_ ∈ l, (Lit.int .i64 x1_).wf = true))
  obtain ⟨rfl, rfl, rfl⟩ : a1 = A1 ∧ len1 = l1.length ∧ cap1 = c1 := by simpa [Value.cells] using e1
  obtain ⟨a2, len2, cap2, rfl⟩ := okWide_slice Try.underlying26 (hval 2 26 v2 rfl rfl)
  have k2 := h2
  have lt2 : ∀ x ∈ p2, x.block < W.heap.size := by obtain ⟨m, hm⟩ := k2; exact DataW.trod_lt m _ _ _ hm
  obtain ⟨l2, ⟨A2, c2, e2, hc2, hr2⟩, hg2⟩ := (by obtain ⟨fuel, hf⟩ := h2; exact op2 _ _ _ _ _ _ _ _ _ hf : ∃ l : List Int, Kd.K (Kd.slice 3 (Kd.int .i64)) W l (Value.cells (.slice a2 len2 cap2)).toList ∧ (∀ x1_ ∈ l, (Lit.int .i64 x1_).wf = true))
  obtain ⟨rfl, rfl, rfl⟩ : a2 = A2 ∧ len2 = l2.length ∧ cap2 = c2 := by simpa [Value.cells] using e2
  obtain ⟨cs3, rfl, hsz3⟩ := okWide_struct Try.underlying39 (hval 3 39 v3 rfl rfl)
  have k3 := h3
  have lt3 : ∀ x ∈ p3, x.block < W.heap.size := by obtain ⟨m, hm⟩ := k3; exact DataW.trod_lt m _ _ _ hm
  obtain ⟨x3, hK3, hg3⟩ := (by obtain ⟨fuel, hf⟩ := h3; exact op3 _ _ _ _ _ _ _ _ _ hf : ∃ x : S39, Kd.K k39 W x cs3.toList ∧ (((Lit.int .i64 x.f0).wf = true) ∧ ((Lit.int .i64 x.f1).wf = true) ∧ (∀ x4_ ∈ x.f2, (x4_.f0.length ≤ 9223372036854775807 ∧ ∀ x6_ ∈ x4_.f0, (Lit.int .i64 x6_).wf = true))))
  obtain ⟨_, _, ecs3, rfl, ⟨_, _, rfl, rfl, ⟨A3_2, c3_2, rfl, hc3_2, hr3_2⟩⟩⟩ := hK3
  obtain rfl : cs3 = #[.int .i64 x3.f0, .int .i64 x3.f1, .slice A3_2 x3.f2.length c3_2] := by cases cs3; simp_all
  clear hA0 hval0 hsz0 hsz
  obtain ⟨k, h⟩ := Pure.FnExactPlanFault x0.f0 x0.f1 x0.f2 l1 l2 x3.f0 x3.f1 x3.f2 hg0.1 hg0.2.1 hg0.2.2 hr1.2.1 hg1 hr2.2.1 hg2 hg3.1 hg3.2.1 hr3_2.2.1 hg3.2.2
  refine (Q.laws_FnExactPlanFault.calls k x0.f0 x0.f1 x0.f2 _ _ l1 _ _ l2 x3.f0 x3.f1 _ _ x3.f2 true W hr1 hc1 hr2 hc2 hr3_2 hc3_2 rfl h).mono fun e W' ⟨he, bel0⟩ => ?_
  have bel := bel0
  subst he
  exact ⟨_, rfl, _, _, _, [], _, [], hW', trodAll_mk1 (shut_bool Try.underlying4 _), (trodAll_cons_mk (Below.trod laidOut (by kernel_rfl) (of_decide_eq_true (by kernel_rfl)) k0 bel lt0) (trodAll_cons_mk (Below.trod laidOut (by kernel_rfl) (of_decide_eq_true (by kernel_rfl)) k1 bel lt1) (trodAll_cons_mk (Below.trod laidOut (by kernel_rfl) (of_decide_eq_true (by kernel_rfl)) k2 bel lt2) (trodAll_cons_mk (Below.trod laidOut (by kernel_rfl) (of_decide_eq_true (by kernel_rfl)) k3 bel lt3) trodAll_mk0)))), rfl, bel.frame _, fun h => by cases h⟩
theorem over : Rows.fnExactPlanFaultRow.holds Try.pinned (OpenSpec.ofChange Rows.fnExactPlanFaultSpec) :=
  OpenClaim.holds_of_wide 4 Try.f4 rfl rfl rfl rfl rfl rfl rfl ⟨rfl, rfl, rfl, rfl, rfl⟩ rfl rfl rfl rfl rfl (by kernel_rfl) Try.func4 (by kernel_rfl)
    (of_decide_eq_true (by kernel_rfl)) (by unfold Func.isWrapper; first | (rw [if_pos (by decide +kernel)]; kernel_rfl) | (rw [if_neg (by decide +kernel)]; exact ⟨rfl, rfl⟩))
    (fun os started H enc _ => lifted os started H enc)
theorem proved : Rows.FnExactPlanFaultSaid := over
#print axioms proved
end Go.Proofs.Ytdebpmdbeogglaa.fnExactPlanFault
namespace Go.Proofs.Ytdebpmdbeogglaa
/-- The row, under a short name, for the claim. -/
theorem fnExactPlanFault_holds : Rows.FnExactPlanFaultSaid := fnExactPlanFault.proved
end Go.Proofs.Ytdebpmdbeogglaa
