/-
  No cell of these rows narrows 'for every input' (looked for: loops, veiled, ifaces, maps, wideKeys, modest, calm, conditions, laid).
  DERIVED. THE GIVEN ROWS OF THIS SEAT. 4 by the template 'for every input the law returns true; each argument reads behind the call as it read before'; 0 by the template 'total and deterministic' (their statements: YtkbbeenjbkmamaaTotals.lean).
  GIVEN WITH THE SEED: the statements are not yours to turn. If you find one false, say at which input.
  Laid BY PROGRAM, IN A SANDBOX (cutbox-rows.mjs): the forced cells as the released guide's own fill.sh prints them over the translation 4f5611cd708662cf… (all of the seat's roots in one cut). By AI agents, Wed Nov 11 2026. No macro, syntax, notation, axiom, sorry.
-/
import Derived.Test.YtkbbeenjbkmamaaChecked
import GoSem.Claim
import GoSem.ClaimJoined
import GoSem.ClaimMapViews
import Derived.JoinedTies
import Derived.KernelRfl
namespace Go.Proofs.Ytkbbeenjbkmamaa
/- THE CELL 'sum', in the pinned program and in every row, IS THE sha256 OF THE DUMP (.gsa) THAT YtkbbeenjbkmamaaProg.lean LOADS. Nothing in Lean hashes anything: it is a label: what it is worth is what the hold of that sum in a sandbox is worth. -/
noncomputable def Try.pinned : Pinned := { name := "ytkbbeenjbkmamaa", sum := "4f5611cd708662cfe7f95ae9b0335686685886dd89f6a886cd15d9fc7cedc8c3", checked := Try.checked }
namespace Rows
def none {H : Type} : Left H := { results := [], args := [] }

/-- 'laws.FnExactRobotAt': WHATEVER THE INPUT: true; the input reads as it did. -/
def fnExactRobotAtSpec : ChangeSpec := { name := "fnExactRobotAt", fn := fun _ => fun
  | [d1, d2] => { results := [.lit (.bool true)], args := [d1, d2] }
  | _ => none }
def fnExactRobotAtRow : OpenClaim := { program := "ytkbbeenjbkmamaa", sum := "4f5611cd708662cfe7f95ae9b0335686685886dd89f6a886cd15d9fc7cedc8c3", func := "loop.example/g00961/laws.FnExactRobotAt", spec := "fnExactRobotAt", unfollowed := true, recurses := true, apart := false }
def FnExactRobotAtSaid : Prop := fnExactRobotAtRow.holds Try.pinned (OpenSpec.ofChange fnExactRobotAtSpec)

/-- ITS FALSE NEIGHBOUR: 'it returns false'. Refute it at one input. -/
def fnExactRobotAtWrong : ChangeSpec := { name := "fnExactRobotAt", fn := fun _ => fun
  | [d1, d2] => { results := [.lit (.bool false)], args := [d1, d2] }
  | _ => none }
def FnExactRobotAtWrongFalsely : Prop := fnExactRobotAtRow.holds Try.pinned (OpenSpec.ofChange fnExactRobotAtWrong)

/-- 'laws.FnExactHolderOf': WHATEVER THE INPUT: true; the input reads as it did. -/
def fnExactHolderOfSpec : ChangeSpec := { name := "fnExactHolderOf", fn := fun _ => fun
  | [d1, d2] => { results := [.lit (.bool true)], args := [d1, d2] }
  | _ => none }
def fnExactHolderOfRow : OpenClaim := { program := "ytkbbeenjbkmamaa", sum := "4f5611cd708662cfe7f95ae9b0335686685886dd89f6a886cd15d9fc7cedc8c3", func := "loop.example/g00961/laws.FnExactHolderOf", spec := "fnExactHolderOf", apart := false }
def FnExactHolderOfSaid : Prop := fnExactHolderOfRow.holds Try.pinned (OpenSpec.ofChange fnExactHolderOfSpec)

/-- ITS FALSE NEIGHBOUR: 'it returns false'. Refute it at one input. -/
def fnExactHolderOfWrong : ChangeSpec := { name := "fnExactHolderOf", fn := fun _ => fun
  | [d1, d2] => { results := [.lit (.bool false)], args := [d1, d2] }
  | _ => none }
def FnExactHolderOfWrongFalsely : Prop := fnExactHolderOfRow.holds Try.pinned (OpenSpec.ofChange fnExactHolderOfWrong)

/-- 'laws.FnExactIdleCells': WHATEVER THE INPUT: true; the input reads as it did. -/
def fnExactIdleCellsSpec : ChangeSpec := { name := "fnExactIdleCells", fn := fun _ => fun
  | [d] => { results := [.lit (.bool true)], args := [d] }
  | _ => none }
def fnExactIdleCellsRow : OpenClaim := { program := "ytkbbeenjbkmamaa", sum := "4f5611cd708662cfe7f95ae9b0335686685886dd89f6a886cd15d9fc7cedc8c3", func := "loop.example/g00961/laws.FnExactIdleCells", spec := "fnExactIdleCells", recurses := true, apart := false }
def FnExactIdleCellsSaid : Prop := fnExactIdleCellsRow.holds Try.pinned (OpenSpec.ofChange fnExactIdleCellsSpec)

/-- ITS FALSE NEIGHBOUR: 'it returns false'. Refute it at one input. -/
def fnExactIdleCellsWrong : ChangeSpec := { name := "fnExactIdleCells", fn := fun _ => fun
  | [d] => { results := [.lit (.bool false)], args := [d] }
  | _ => none }
def FnExactIdleCellsWrongFalsely : Prop := fnExactIdleCellsRow.holds Try.pinned (OpenSpec.ofChange fnExactIdleCellsWrong)

/-- 'laws.FnExactRobotsOk': WHATEVER THE INPUT: true; the input reads as it did. -/
def fnExactRobotsOkSpec : ChangeSpec := { name := "fnExactRobotsOk", fn := fun _ => fun
  | [d1, d2] => { results := [.lit (.bool true)], args := [d1, d2] }
  | _ => none }
def fnExactRobotsOkRow : OpenClaim := { program := "ytkbbeenjbkmamaa", sum := "4f5611cd708662cfe7f95ae9b0335686685886dd89f6a886cd15d9fc7cedc8c3", func := "loop.example/g00961/laws.FnExactRobotsOk", spec := "fnExactRobotsOk", apart := false }
def FnExactRobotsOkSaid : Prop := fnExactRobotsOkRow.holds Try.pinned (OpenSpec.ofChange fnExactRobotsOkSpec)

/-- ITS FALSE NEIGHBOUR: 'it returns false'. Refute it at one input. -/
def fnExactRobotsOkWrong : ChangeSpec := { name := "fnExactRobotsOk", fn := fun _ => fun
  | [d1, d2] => { results := [.lit (.bool false)], args := [d1, d2] }
  | _ => none }
def FnExactRobotsOkWrongFalsely : Prop := fnExactRobotsOkRow.holds Try.pinned (OpenSpec.ofChange fnExactRobotsOkWrong)

/- THE SECOND FORM. 'bulk': how many values and letters a reading holds, each counted each time it is reached (what is shared counts as often as it is met; a slice's spare places count too). A statement '..UptoSaid' is the law's where the arguments, and the package variables that the reading takes, are together of bulk at most 1048576: NARROWER than '..Said'. Prove '..Said' where nothing that the law and all that it calls make is longer than what came in: it says more and counts as full. Else prove '..UptoSaid'. A law counts once. -/
mutual
def uptoBulk {H : Type} : DataW H → Nat
  | .lit (.string bytes) => bytes.length + 1
  | .lit _ => 1
  | .nil => 1
  | .ptr d => uptoBulk d + 1
  | .slice elems spare => uptoBulkAll elems + uptoBulkAll spare + 1
  | .agg parts => uptoBulkAll parts + 1
  | .iface _ d => uptoBulk d + 1
  | .map entries => uptoBulkEntries entries + 1
  | .held _ => 1
def uptoBulkAll {H : Type} : List (DataW H) → Nat
  | [] => 0
  | d :: r => uptoBulk d + uptoBulkAll r
def uptoBulkEntries {H : Type} : List (Lit × DataW H) → Nat
  | [] => 0
  | x :: r => uptoBulkEntry x + uptoBulkEntries r
def uptoBulkEntry {H : Type} : Lit × DataW H → Nat
  | (.string bytes, d) => bytes.length + uptoBulk d + 1
  | (_, d) => uptoBulk d + 1
 end
def uptoSmall : (H : Type) → List (DataW H) → Bool := fun _ ds => decide (uptoBulkAll ds ≤ 1048576)
def OpenSpec.upto (s : _root_.Go.ChangeSpec) : _root_.Go.OpenSpec := { _root_.Go.OpenSpec.ofChange s with cond := some uptoSmall }

/-- 'laws.FnExactRobotAt', WHERE WHAT IT READS IS OF BULK AT MOST 1048576: true; the input reads as it did. -/
def fnExactRobotAtUptoRow : OpenClaim := { program := "ytkbbeenjbkmamaa", sum := "4f5611cd708662cfe7f95ae9b0335686685886dd89f6a886cd15d9fc7cedc8c3", func := "loop.example/g00961/laws.FnExactRobotAt", spec := "fnExactRobotAt", unfollowed := true, recurses := true, apart := false, narrowed := true }
def FnExactRobotAtUptoSaid : Prop := fnExactRobotAtUptoRow.holds Try.pinned (OpenSpec.upto fnExactRobotAtSpec)

/-- 'laws.FnExactHolderOf', WHERE WHAT IT READS IS OF BULK AT MOST 1048576: true; the input reads as it did. -/
def fnExactHolderOfUptoRow : OpenClaim := { program := "ytkbbeenjbkmamaa", sum := "4f5611cd708662cfe7f95ae9b0335686685886dd89f6a886cd15d9fc7cedc8c3", func := "loop.example/g00961/laws.FnExactHolderOf", spec := "fnExactHolderOf", apart := false, narrowed := true }
def FnExactHolderOfUptoSaid : Prop := fnExactHolderOfUptoRow.holds Try.pinned (OpenSpec.upto fnExactHolderOfSpec)

/-- 'laws.FnExactIdleCells', WHERE WHAT IT READS IS OF BULK AT MOST 1048576: true; the input reads as it did. -/
def fnExactIdleCellsUptoRow : OpenClaim := { program := "ytkbbeenjbkmamaa", sum := "4f5611cd708662cfe7f95ae9b0335686685886dd89f6a886cd15d9fc7cedc8c3", func := "loop.example/g00961/laws.FnExactIdleCells", spec := "fnExactIdleCells", recurses := true, apart := false, narrowed := true }
def FnExactIdleCellsUptoSaid : Prop := fnExactIdleCellsUptoRow.holds Try.pinned (OpenSpec.upto fnExactIdleCellsSpec)

/-- 'laws.FnExactRobotsOk', WHERE WHAT IT READS IS OF BULK AT MOST 1048576: true; the input reads as it did. -/
def fnExactRobotsOkUptoRow : OpenClaim := { program := "ytkbbeenjbkmamaa", sum := "4f5611cd708662cfe7f95ae9b0335686685886dd89f6a886cd15d9fc7cedc8c3", func := "loop.example/g00961/laws.FnExactRobotsOk", spec := "fnExactRobotsOk", apart := false, narrowed := true }
def FnExactRobotsOkUptoSaid : Prop := fnExactRobotsOkUptoRow.holds Try.pinned (OpenSpec.upto fnExactRobotsOkSpec)

end Rows
end Go.Proofs.Ytkbbeenjbkmamaa
