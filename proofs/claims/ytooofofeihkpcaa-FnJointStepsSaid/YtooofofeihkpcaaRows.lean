/-
  No cell of these rows narrows 'for every input' (looked for: loops, veiled, ifaces, maps, wideKeys, modest, calm, conditions, laid).
  DERIVED. THE GIVEN ROWS OF THIS SEAT. 12 by the template 'for every input the law returns true; each argument reads behind the call as it read before'; 0 by the template 'total and deterministic' (their statements: YtooofofeihkpcaaTotals.lean).
  GIVEN WITH THE SEED: the statements are not yours to turn. If you find one false, say at which input.
  Laid BY PROGRAM, IN A SANDBOX (cutbox-rows.mjs): the forced cells as the released guide's own fill.sh prints them over the translation 1615fa6be3d66a46… (all of the seat's roots in one cut). By AI agents, Wed Nov 11 2026. No macro, syntax, notation, axiom, sorry.
-/
import Derived.Test.YtooofofeihkpcaaChecked
import GoSem.Claim
import GoSem.ClaimJoined
import GoSem.ClaimMapViews
import Derived.JoinedTies
import Derived.KernelRfl
namespace Go.Proofs.Ytooofofeihkpcaa
/- THE CELL 'sum', in the pinned program and in every row, IS THE sha256 OF THE DUMP (.gsa) THAT YtooofofeihkpcaaProg.lean LOADS. Nothing in Lean hashes anything: it is a label: what it is worth is what the hold of that sum in a sandbox is worth. -/
noncomputable def Try.pinned : Pinned := { name := "ytooofofeihkpcaa", sum := "1615fa6be3d66a464dbf637431fbaa3178ea10a44a7d66f2ab1b4533cbe9edec", checked := Try.checked }
namespace Rows
def none {H : Type} : Left H := { results := [], args := [] }

/-- 'laws.FnExactInNode': WHATEVER THE INPUT: true; the input reads as it did. -/
def fnExactInNodeSpec : ChangeSpec := { name := "fnExactInNode", fn := fun _ => fun
  | [d1, d2, d3] => { results := [.lit (.bool true)], args := [d1, d2, d3] }
  | _ => none }
def fnExactInNodeRow : OpenClaim := { program := "ytooofofeihkpcaa", sum := "1615fa6be3d66a464dbf637431fbaa3178ea10a44a7d66f2ab1b4533cbe9edec", func := "loop.example/g00961/laws.FnExactInNode", spec := "fnExactInNode", apart := false }
def FnExactInNodeSaid : Prop := fnExactInNodeRow.holds Try.pinned (OpenSpec.ofChange fnExactInNodeSpec)

/-- ITS FALSE NEIGHBOUR: 'it returns false'. Refute it at one input. -/
def fnExactInNodeWrong : ChangeSpec := { name := "fnExactInNode", fn := fun _ => fun
  | [d1, d2, d3] => { results := [.lit (.bool false)], args := [d1, d2, d3] }
  | _ => none }
def FnExactInNodeWrongFalsely : Prop := fnExactInNodeRow.holds Try.pinned (OpenSpec.ofChange fnExactInNodeWrong)

/-- 'laws.FnExactSpanSure': WHATEVER THE INPUT: true; the input reads as it did. -/
def fnExactSpanSureSpec : ChangeSpec := { name := "fnExactSpanSure", fn := fun _ => fun
  | [d1, d2] => { results := [.lit (.bool true)], args := [d1, d2] }
  | _ => none }
def fnExactSpanSureRow : OpenClaim := { program := "ytooofofeihkpcaa", sum := "1615fa6be3d66a464dbf637431fbaa3178ea10a44a7d66f2ab1b4533cbe9edec", func := "loop.example/g00961/laws.FnExactSpanSure", spec := "fnExactSpanSure", apart := false }
def FnExactSpanSureSaid : Prop := fnExactSpanSureRow.holds Try.pinned (OpenSpec.ofChange fnExactSpanSureSpec)

/-- ITS FALSE NEIGHBOUR: 'it returns false'. Refute it at one input. -/
def fnExactSpanSureWrong : ChangeSpec := { name := "fnExactSpanSure", fn := fun _ => fun
  | [d1, d2] => { results := [.lit (.bool false)], args := [d1, d2] }
  | _ => none }
def FnExactSpanSureWrongFalsely : Prop := fnExactSpanSureRow.holds Try.pinned (OpenSpec.ofChange fnExactSpanSureWrong)

/-- 'laws.FnExactAskOk': WHATEVER THE INPUT: true; the input reads as it did. -/
def fnExactAskOkSpec : ChangeSpec := { name := "fnExactAskOk", fn := fun _ => fun
  | [d1, d2, d3, d4] => { results := [.lit (.bool true)], args := [d1, d2, d3, d4] }
  | _ => none }
def fnExactAskOkRow : OpenClaim := { program := "ytooofofeihkpcaa", sum := "1615fa6be3d66a464dbf637431fbaa3178ea10a44a7d66f2ab1b4533cbe9edec", func := "loop.example/g00961/laws.FnExactAskOk", spec := "fnExactAskOk", unfollowed := true, recurses := true, apart := false }
def FnExactAskOkSaid : Prop := fnExactAskOkRow.holds Try.pinned (OpenSpec.ofChange fnExactAskOkSpec)

/-- ITS FALSE NEIGHBOUR: 'it returns false'. Refute it at one input. -/
def fnExactAskOkWrong : ChangeSpec := { name := "fnExactAskOk", fn := fun _ => fun
  | [d1, d2, d3, d4] => { results := [.lit (.bool false)], args := [d1, d2, d3, d4] }
  | _ => none }
def FnExactAskOkWrongFalsely : Prop := fnExactAskOkRow.holds Try.pinned (OpenSpec.ofChange fnExactAskOkWrong)

/-- 'laws.FnExactStandsOf': WHATEVER THE INPUT: true; the input reads as it did. -/
def fnExactStandsOfSpec : ChangeSpec := { name := "fnExactStandsOf", fn := fun _ => fun
  | [d1, d2] => { results := [.lit (.bool true)], args := [d1, d2] }
  | _ => none }
def fnExactStandsOfRow : OpenClaim := { program := "ytooofofeihkpcaa", sum := "1615fa6be3d66a464dbf637431fbaa3178ea10a44a7d66f2ab1b4533cbe9edec", func := "loop.example/g00961/laws.FnExactStandsOf", spec := "fnExactStandsOf", apart := false }
def FnExactStandsOfSaid : Prop := fnExactStandsOfRow.holds Try.pinned (OpenSpec.ofChange fnExactStandsOfSpec)

/-- ITS FALSE NEIGHBOUR: 'it returns false'. Refute it at one input. -/
def fnExactStandsOfWrong : ChangeSpec := { name := "fnExactStandsOf", fn := fun _ => fun
  | [d1, d2] => { results := [.lit (.bool false)], args := [d1, d2] }
  | _ => none }
def FnExactStandsOfWrongFalsely : Prop := fnExactStandsOfRow.holds Try.pinned (OpenSpec.ofChange fnExactStandsOfWrong)

/-- 'laws.FnExactRoomsOf': WHATEVER THE INPUT: true; the input reads as it did. -/
def fnExactRoomsOfSpec : ChangeSpec := { name := "fnExactRoomsOf", fn := fun _ => fun
  | [d1, d2] => { results := [.lit (.bool true)], args := [d1, d2] }
  | _ => none }
def fnExactRoomsOfRow : OpenClaim := { program := "ytooofofeihkpcaa", sum := "1615fa6be3d66a464dbf637431fbaa3178ea10a44a7d66f2ab1b4533cbe9edec", func := "loop.example/g00961/laws.FnExactRoomsOf", spec := "fnExactRoomsOf", unfollowed := true, recurses := true, apart := false }
def FnExactRoomsOfSaid : Prop := fnExactRoomsOfRow.holds Try.pinned (OpenSpec.ofChange fnExactRoomsOfSpec)

/-- ITS FALSE NEIGHBOUR: 'it returns false'. Refute it at one input. -/
def fnExactRoomsOfWrong : ChangeSpec := { name := "fnExactRoomsOf", fn := fun _ => fun
  | [d1, d2] => { results := [.lit (.bool false)], args := [d1, d2] }
  | _ => none }
def FnExactRoomsOfWrongFalsely : Prop := fnExactRoomsOfRow.holds Try.pinned (OpenSpec.ofChange fnExactRoomsOfWrong)

/-- 'laws.FnExactJointStep': WHATEVER THE INPUT: true; the input reads as it did. -/
def fnExactJointStepSpec : ChangeSpec := { name := "fnExactJointStep", fn := fun _ => fun
  | [d1, d2, d3] => { results := [.lit (.bool true)], args := [d1, d2, d3] }
  | _ => none }
def fnExactJointStepRow : OpenClaim := { program := "ytooofofeihkpcaa", sum := "1615fa6be3d66a464dbf637431fbaa3178ea10a44a7d66f2ab1b4533cbe9edec", func := "loop.example/g00961/laws.FnExactJointStep", spec := "fnExactJointStep", unfollowed := true, recurses := true, apart := false }
def FnExactJointStepSaid : Prop := fnExactJointStepRow.holds Try.pinned (OpenSpec.ofChange fnExactJointStepSpec)

/-- ITS FALSE NEIGHBOUR: 'it returns false'. Refute it at one input. -/
def fnExactJointStepWrong : ChangeSpec := { name := "fnExactJointStep", fn := fun _ => fun
  | [d1, d2, d3] => { results := [.lit (.bool false)], args := [d1, d2, d3] }
  | _ => none }
def FnExactJointStepWrongFalsely : Prop := fnExactJointStepRow.holds Try.pinned (OpenSpec.ofChange fnExactJointStepWrong)

/-- 'laws.FnJointSteps': WHATEVER THE INPUT: true; the input reads as it did. -/
def fnJointStepsSpec : ChangeSpec := { name := "fnJointSteps", fn := fun _ => fun
  | [d] => { results := [.lit (.bool true)], args := [d] }
  | _ => none }
def fnJointStepsRow : OpenClaim := { program := "ytooofofeihkpcaa", sum := "1615fa6be3d66a464dbf637431fbaa3178ea10a44a7d66f2ab1b4533cbe9edec", func := "loop.example/g00961/laws.FnJointSteps", spec := "fnJointSteps", unfollowed := true, recurses := true, apart := false }
def FnJointStepsSaid : Prop := fnJointStepsRow.holds Try.pinned (OpenSpec.ofChange fnJointStepsSpec)

/-- ITS FALSE NEIGHBOUR: 'it returns false'. Refute it at one input. -/
def fnJointStepsWrong : ChangeSpec := { name := "fnJointSteps", fn := fun _ => fun
  | [d] => { results := [.lit (.bool false)], args := [d] }
  | _ => none }
def FnJointStepsWrongFalsely : Prop := fnJointStepsRow.holds Try.pinned (OpenSpec.ofChange fnJointStepsWrong)

/-- 'laws.FnExactMovesLeast': WHATEVER THE INPUT: true; the input reads as it did. -/
def fnExactMovesLeastSpec : ChangeSpec := { name := "fnExactMovesLeast", fn := fun _ => fun
  | [d1, d2, d3] => { results := [.lit (.bool true)], args := [d1, d2, d3] }
  | _ => none }
def fnExactMovesLeastRow : OpenClaim := { program := "ytooofofeihkpcaa", sum := "1615fa6be3d66a464dbf637431fbaa3178ea10a44a7d66f2ab1b4533cbe9edec", func := "loop.example/g00961/laws.FnExactMovesLeast", spec := "fnExactMovesLeast", unfollowed := true, recurses := true, apart := false }
def FnExactMovesLeastSaid : Prop := fnExactMovesLeastRow.holds Try.pinned (OpenSpec.ofChange fnExactMovesLeastSpec)

/-- ITS FALSE NEIGHBOUR: 'it returns false'. Refute it at one input. -/
def fnExactMovesLeastWrong : ChangeSpec := { name := "fnExactMovesLeast", fn := fun _ => fun
  | [d1, d2, d3] => { results := [.lit (.bool false)], args := [d1, d2, d3] }
  | _ => none }
def FnExactMovesLeastWrongFalsely : Prop := fnExactMovesLeastRow.holds Try.pinned (OpenSpec.ofChange fnExactMovesLeastWrong)

/-- 'laws.FnExactSpanLeast': WHATEVER THE INPUT: true; the input reads as it did. -/
def fnExactSpanLeastSpec : ChangeSpec := { name := "fnExactSpanLeast", fn := fun _ => fun
  | [d1, d2, d3] => { results := [.lit (.bool true)], args := [d1, d2, d3] }
  | _ => none }
def fnExactSpanLeastRow : OpenClaim := { program := "ytooofofeihkpcaa", sum := "1615fa6be3d66a464dbf637431fbaa3178ea10a44a7d66f2ab1b4533cbe9edec", func := "loop.example/g00961/laws.FnExactSpanLeast", spec := "fnExactSpanLeast", unfollowed := true, recurses := true, apart := false }
def FnExactSpanLeastSaid : Prop := fnExactSpanLeastRow.holds Try.pinned (OpenSpec.ofChange fnExactSpanLeastSpec)

/-- ITS FALSE NEIGHBOUR: 'it returns false'. Refute it at one input. -/
def fnExactSpanLeastWrong : ChangeSpec := { name := "fnExactSpanLeast", fn := fun _ => fun
  | [d1, d2, d3] => { results := [.lit (.bool false)], args := [d1, d2, d3] }
  | _ => none }
def FnExactSpanLeastWrongFalsely : Prop := fnExactSpanLeastRow.holds Try.pinned (OpenSpec.ofChange fnExactSpanLeastWrong)

/-- 'laws.FnExactAskFault': WHATEVER THE INPUT: true; the input reads as it did. -/
def fnExactAskFaultSpec : ChangeSpec := { name := "fnExactAskFault", fn := fun _ => fun
  | [d1, d2, d3, d4] => { results := [.lit (.bool true)], args := [d1, d2, d3, d4] }
  | _ => none }
def fnExactAskFaultRow : OpenClaim := { program := "ytooofofeihkpcaa", sum := "1615fa6be3d66a464dbf637431fbaa3178ea10a44a7d66f2ab1b4533cbe9edec", func := "loop.example/g00961/laws.FnExactAskFault", spec := "fnExactAskFault", unfollowed := true, recurses := true, apart := false }
def FnExactAskFaultSaid : Prop := fnExactAskFaultRow.holds Try.pinned (OpenSpec.ofChange fnExactAskFaultSpec)

/-- ITS FALSE NEIGHBOUR: 'it returns false'. Refute it at one input. -/
def fnExactAskFaultWrong : ChangeSpec := { name := "fnExactAskFault", fn := fun _ => fun
  | [d1, d2, d3, d4] => { results := [.lit (.bool false)], args := [d1, d2, d3, d4] }
  | _ => none }
def FnExactAskFaultWrongFalsely : Prop := fnExactAskFaultRow.holds Try.pinned (OpenSpec.ofChange fnExactAskFaultWrong)

/-- 'laws.FnExactJointLeast': WHATEVER THE INPUT: true; the input reads as it did. -/
def fnExactJointLeastSpec : ChangeSpec := { name := "fnExactJointLeast", fn := fun _ => fun
  | [d1, d2, d3, d4] => { results := [.lit (.bool true)], args := [d1, d2, d3, d4] }
  | _ => none }
def fnExactJointLeastRow : OpenClaim := { program := "ytooofofeihkpcaa", sum := "1615fa6be3d66a464dbf637431fbaa3178ea10a44a7d66f2ab1b4533cbe9edec", func := "loop.example/g00961/laws.FnExactJointLeast", spec := "fnExactJointLeast", unfollowed := true, recurses := true, apart := false }
def FnExactJointLeastSaid : Prop := fnExactJointLeastRow.holds Try.pinned (OpenSpec.ofChange fnExactJointLeastSpec)

/-- ITS FALSE NEIGHBOUR: 'it returns false'. Refute it at one input. -/
def fnExactJointLeastWrong : ChangeSpec := { name := "fnExactJointLeast", fn := fun _ => fun
  | [d1, d2, d3, d4] => { results := [.lit (.bool false)], args := [d1, d2, d3, d4] }
  | _ => none }
def FnExactJointLeastWrongFalsely : Prop := fnExactJointLeastRow.holds Try.pinned (OpenSpec.ofChange fnExactJointLeastWrong)

/-- 'laws.FnExactJointSpan': WHATEVER THE INPUT: true; the input reads as it did. -/
def fnExactJointSpanSpec : ChangeSpec := { name := "fnExactJointSpan", fn := fun _ => fun
  | [d1, d2, d3, d4] => { results := [.lit (.bool true)], args := [d1, d2, d3, d4] }
  | _ => none }
def fnExactJointSpanRow : OpenClaim := { program := "ytooofofeihkpcaa", sum := "1615fa6be3d66a464dbf637431fbaa3178ea10a44a7d66f2ab1b4533cbe9edec", func := "loop.example/g00961/laws.FnExactJointSpan", spec := "fnExactJointSpan", unfollowed := true, recurses := true, apart := false }
def FnExactJointSpanSaid : Prop := fnExactJointSpanRow.holds Try.pinned (OpenSpec.ofChange fnExactJointSpanSpec)

/-- ITS FALSE NEIGHBOUR: 'it returns false'. Refute it at one input. -/
def fnExactJointSpanWrong : ChangeSpec := { name := "fnExactJointSpan", fn := fun _ => fun
  | [d1, d2, d3, d4] => { results := [.lit (.bool false)], args := [d1, d2, d3, d4] }
  | _ => none }
def FnExactJointSpanWrongFalsely : Prop := fnExactJointSpanRow.holds Try.pinned (OpenSpec.ofChange fnExactJointSpanWrong)

/- THE SECOND FORM. 'bulk': how many values and letters a reading holds, each counted each time it is reached (what is shared counts as often as it is met; a slice's spare places count too). A statement '..UptoSaid' is the law's where the arguments, and the package variables that the reading takes, are together of bulk at most 1048576: NARROWER than '..Said'. Prove '..Said' where nothing that the law and all that it calls make is longer than what came in: it says more and counts as full. Else prove '..UptoSaid'. A law counts once. -/
mutual
def uptoBulk {H : Type} : DataW H → Nat
  | .lit (.string bytes) => bytes.length + 1
  | .lit _ => 1
  | .nil => 1
  | .ptr d => uptoBulk d + 1
  | .slice elems spare => uptoBulkAll elems + uptoBulkAll spare + 1
  | .agg parts => uptoBulkAll parts + 1
  | .iface _ d => uptoBulk d + 1
  | .map entries => uptoBulkEntries entries + 1
  | .held _ => 1
def uptoBulkAll {H : Type} : List (DataW H) → Nat
  | [] => 0
  | d :: r => uptoBulk d + uptoBulkAll r
def uptoBulkEntries {H : Type} : List (Lit × DataW H) → Nat
  | [] => 0
  | x :: r => uptoBulkEntry x + uptoBulkEntries r
def uptoBulkEntry {H : Type} : Lit × DataW H → Nat
  | (.string bytes, d) => bytes.length + uptoBulk d + 1
  | (_, d) => uptoBulk d + 1
 end
def uptoSmall : (H : Type) → List (DataW H) → Bool := fun _ ds => decide (uptoBulkAll ds ≤ 1048576)
def OpenSpec.upto (s : _root_.Go.ChangeSpec) : _root_.Go.OpenSpec := { _root_.Go.OpenSpec.ofChange s with cond := some uptoSmall }

/-- 'laws.FnExactInNode', WHERE WHAT IT READS IS OF BULK AT MOST 1048576: true; the input reads as it did. -/
def fnExactInNodeUptoRow : OpenClaim := { program := "ytooofofeihkpcaa", sum := "1615fa6be3d66a464dbf637431fbaa3178ea10a44a7d66f2ab1b4533cbe9edec", func := "loop.example/g00961/laws.FnExactInNode", spec := "fnExactInNode", apart := false, narrowed := true }
def FnExactInNodeUptoSaid : Prop := fnExactInNodeUptoRow.holds Try.pinned (OpenSpec.upto fnExactInNodeSpec)

/-- 'laws.FnExactSpanSure', WHERE WHAT IT READS IS OF BULK AT MOST 1048576: true; the input reads as it did. -/
def fnExactSpanSureUptoRow : OpenClaim := { program := "ytooofofeihkpcaa", sum := "1615fa6be3d66a464dbf637431fbaa3178ea10a44a7d66f2ab1b4533cbe9edec", func := "loop.example/g00961/laws.FnExactSpanSure", spec := "fnExactSpanSure", apart := false, narrowed := true }
def FnExactSpanSureUptoSaid : Prop := fnExactSpanSureUptoRow.holds Try.pinned (OpenSpec.upto fnExactSpanSureSpec)

/-- 'laws.FnExactAskOk', WHERE WHAT IT READS IS OF BULK AT MOST 1048576: true; the input reads as it did. -/
def fnExactAskOkUptoRow : OpenClaim := { program := "ytooofofeihkpcaa", sum := "1615fa6be3d66a464dbf637431fbaa3178ea10a44a7d66f2ab1b4533cbe9edec", func := "loop.example/g00961/laws.FnExactAskOk", spec := "fnExactAskOk", unfollowed := true, recurses := true, apart := false, narrowed := true }
def FnExactAskOkUptoSaid : Prop := fnExactAskOkUptoRow.holds Try.pinned (OpenSpec.upto fnExactAskOkSpec)

/-- 'laws.FnExactStandsOf', WHERE WHAT IT READS IS OF BULK AT MOST 1048576: true; the input reads as it did. -/
def fnExactStandsOfUptoRow : OpenClaim := { program := "ytooofofeihkpcaa", sum := "1615fa6be3d66a464dbf637431fbaa3178ea10a44a7d66f2ab1b4533cbe9edec", func := "loop.example/g00961/laws.FnExactStandsOf", spec := "fnExactStandsOf", apart := false, narrowed := true }
def FnExactStandsOfUptoSaid : Prop := fnExactStandsOfUptoRow.holds Try.pinned (OpenSpec.upto fnExactStandsOfSpec)

/-- 'laws.FnExactRoomsOf', WHERE WHAT IT READS IS OF BULK AT MOST 1048576: true; the input reads as it did. -/
def fnExactRoomsOfUptoRow : OpenClaim := { program := "ytooofofeihkpcaa", sum := "1615fa6be3d66a464dbf637431fbaa3178ea10a44a7d66f2ab1b4533cbe9edec", func := "loop.example/g00961/laws.FnExactRoomsOf", spec := "fnExactRoomsOf", unfollowed := true, recurses := true, apart := false, narrowed := true }
def FnExactRoomsOfUptoSaid : Prop := fnExactRoomsOfUptoRow.holds Try.pinned (OpenSpec.upto fnExactRoomsOfSpec)

/-- 'laws.FnExactJointStep', WHERE WHAT IT READS IS OF BULK AT MOST 1048576: true; the input reads as it did. -/
def fnExactJointStepUptoRow : OpenClaim := { program := "ytooofofeihkpcaa", sum := "1615fa6be3d66a464dbf637431fbaa3178ea10a44a7d66f2ab1b4533cbe9edec", func := "loop.example/g00961/laws.FnExactJointStep", spec := "fnExactJointStep", unfollowed := true, recurses := true, apart := false, narrowed := true }
def FnExactJointStepUptoSaid : Prop := fnExactJointStepUptoRow.holds Try.pinned (OpenSpec.upto fnExactJointStepSpec)

/-- 'laws.FnJointSteps', WHERE WHAT IT READS IS OF BULK AT MOST 1048576: true; the input reads as it did. -/
def fnJointStepsUptoRow : OpenClaim := { program := "ytooofofeihkpcaa", sum := "1615fa6be3d66a464dbf637431fbaa3178ea10a44a7d66f2ab1b4533cbe9edec", func := "loop.example/g00961/laws.FnJointSteps", spec := "fnJointSteps", unfollowed := true, recurses := true, apart := false, narrowed := true }
def FnJointStepsUptoSaid : Prop := fnJointStepsUptoRow.holds Try.pinned (OpenSpec.upto fnJointStepsSpec)

/-- 'laws.FnExactMovesLeast', WHERE WHAT IT READS IS OF BULK AT MOST 1048576: true; the input reads as it did. -/
def fnExactMovesLeastUptoRow : OpenClaim := { program := "ytooofofeihkpcaa", sum := "1615fa6be3d66a464dbf637431fbaa3178ea10a44a7d66f2ab1b4533cbe9edec", func := "loop.example/g00961/laws.FnExactMovesLeast", spec := "fnExactMovesLeast", unfollowed := true, recurses := true, apart := false, narrowed := true }
def FnExactMovesLeastUptoSaid : Prop := fnExactMovesLeastUptoRow.holds Try.pinned (OpenSpec.upto fnExactMovesLeastSpec)

/-- 'laws.FnExactSpanLeast', WHERE WHAT IT READS IS OF BULK AT MOST 1048576: true; the input reads as it did. -/
def fnExactSpanLeastUptoRow : OpenClaim := { program := "ytooofofeihkpcaa", sum := "1615fa6be3d66a464dbf637431fbaa3178ea10a44a7d66f2ab1b4533cbe9edec", func := "loop.example/g00961/laws.FnExactSpanLeast", spec := "fnExactSpanLeast", unfollowed := true, recurses := true, apart := false, narrowed := true }
def FnExactSpanLeastUptoSaid : Prop := fnExactSpanLeastUptoRow.holds Try.pinned (OpenSpec.upto fnExactSpanLeastSpec)

/-- 'laws.FnExactAskFault', WHERE WHAT IT READS IS OF BULK AT MOST 1048576: true; the input reads as it did. -/
def fnExactAskFaultUptoRow : OpenClaim := { program := "ytooofofeihkpcaa", sum := "1615fa6be3d66a464dbf637431fbaa3178ea10a44a7d66f2ab1b4533cbe9edec", func := "loop.example/g00961/laws.FnExactAskFault", spec := "fnExactAskFault", unfollowed := true, recurses := true, apart := false, narrowed := true }
def FnExactAskFaultUptoSaid : Prop := fnExactAskFaultUptoRow.holds Try.pinned (OpenSpec.upto fnExactAskFaultSpec)

/-- 'laws.FnExactJointLeast', WHERE WHAT IT READS IS OF BULK AT MOST 1048576: true; the input reads as it did. -/
def fnExactJointLeastUptoRow : OpenClaim := { program := "ytooofofeihkpcaa", sum := "1615fa6be3d66a464dbf637431fbaa3178ea10a44a7d66f2ab1b4533cbe9edec", func := "loop.example/g00961/laws.FnExactJointLeast", spec := "fnExactJointLeast", unfollowed := true, recurses := true, apart := false, narrowed := true }
def FnExactJointLeastUptoSaid : Prop := fnExactJointLeastUptoRow.holds Try.pinned (OpenSpec.upto fnExactJointLeastSpec)

/-- 'laws.FnExactJointSpan', WHERE WHAT IT READS IS OF BULK AT MOST 1048576: true; the input reads as it did. -/
def fnExactJointSpanUptoRow : OpenClaim := { program := "ytooofofeihkpcaa", sum := "1615fa6be3d66a464dbf637431fbaa3178ea10a44a7d66f2ab1b4533cbe9edec", func := "loop.example/g00961/laws.FnExactJointSpan", spec := "fnExactJointSpan", unfollowed := true, recurses := true, apart := false, narrowed := true }
def FnExactJointSpanUptoSaid : Prop := fnExactJointSpanUptoRow.holds Try.pinned (OpenSpec.upto fnExactJointSpanSpec)

end Rows
end Go.Proofs.Ytooofofeihkpcaa
