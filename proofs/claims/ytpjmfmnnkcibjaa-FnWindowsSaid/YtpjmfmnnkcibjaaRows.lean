/-
  No cell of these rows narrows 'for every input' (looked for: loops, veiled, ifaces, maps, wideKeys, modest, calm, conditions, laid).
  DERIVED. THE GIVEN ROWS OF THIS SEAT. 7 by the template 'for every input the law returns true; each argument reads behind the call as it read before'; 0 by the template 'total and deterministic' (their statements: YtpjmfmnnkcibjaaTotals.lean).
  GIVEN WITH THE SEED: the statements are not yours to turn. If you find one false, say at which input.
  Laid BY PROGRAM, IN A SANDBOX (cutbox-rows.mjs): the forced cells as the released guide's own fill.sh prints them over the translation 9717c8e1ca6ca88d… (all of the seat's roots in one cut). By AI agents, Wed Nov 11 2026. No macro, syntax, notation, axiom, sorry.
-/
import Derived.Test.YtpjmfmnnkcibjaaChecked
import GoSem.Claim
import GoSem.ClaimJoined
import GoSem.ClaimMapViews
import Derived.JoinedTies
import Derived.KernelRfl
namespace Go.Proofs.Ytpjmfmnnkcibjaa
/- THE CELL 'sum', in the pinned program and in every row, IS THE sha256 OF THE DUMP (.gsa) THAT YtpjmfmnnkcibjaaProg.lean LOADS. Nothing in Lean hashes anything: it is a label: what it is worth is what the hold of that sum in a sandbox is worth. -/
noncomputable def Try.pinned : Pinned := { name := "ytpjmfmnnkcibjaa", sum := "9717c8e1ca6ca88dcc842327da740122c2538acbc4a7be8bc7ad9c56c95ab3c3", checked := Try.checked }
namespace Rows
def none {H : Type} : Left H := { results := [], args := [] }

/-- 'laws.FnExactWindowNew': WHATEVER THE INPUT: true; the input reads as it did. -/
def fnExactWindowNewSpec : ChangeSpec := { name := "fnExactWindowNew", fn := fun _ => fun
  | [d1, d2] => { results := [.lit (.bool true)], args := [d1, d2] }
  | _ => none }
def fnExactWindowNewRow : OpenClaim := { program := "ytpjmfmnnkcibjaa", sum := "9717c8e1ca6ca88dcc842327da740122c2538acbc4a7be8bc7ad9c56c95ab3c3", func := "loop.example/g00961/laws.FnExactWindowNew", spec := "fnExactWindowNew", apart := false }
def FnExactWindowNewSaid : Prop := fnExactWindowNewRow.holds Try.pinned (OpenSpec.ofChange fnExactWindowNewSpec)

/-- ITS FALSE NEIGHBOUR: 'it returns false'. Refute it at one input. -/
def fnExactWindowNewWrong : ChangeSpec := { name := "fnExactWindowNew", fn := fun _ => fun
  | [d1, d2] => { results := [.lit (.bool false)], args := [d1, d2] }
  | _ => none }
def FnExactWindowNewWrongFalsely : Prop := fnExactWindowNewRow.holds Try.pinned (OpenSpec.ofChange fnExactWindowNewWrong)

/-- 'laws.FnExactWindowOk': WHATEVER THE INPUT: true; the input reads as it did. -/
def fnExactWindowOkSpec : ChangeSpec := { name := "fnExactWindowOk", fn := fun _ => fun
  | [d] => { results := [.lit (.bool true)], args := [d] }
  | _ => none }
def fnExactWindowOkRow : OpenClaim := { program := "ytpjmfmnnkcibjaa", sum := "9717c8e1ca6ca88dcc842327da740122c2538acbc4a7be8bc7ad9c56c95ab3c3", func := "loop.example/g00961/laws.FnExactWindowOk", spec := "fnExactWindowOk", unfollowed := true, recurses := true, apart := false }
def FnExactWindowOkSaid : Prop := fnExactWindowOkRow.holds Try.pinned (OpenSpec.ofChange fnExactWindowOkSpec)

/-- ITS FALSE NEIGHBOUR: 'it returns false'. Refute it at one input. -/
def fnExactWindowOkWrong : ChangeSpec := { name := "fnExactWindowOk", fn := fun _ => fun
  | [d] => { results := [.lit (.bool false)], args := [d] }
  | _ => none }
def FnExactWindowOkWrongFalsely : Prop := fnExactWindowOkRow.holds Try.pinned (OpenSpec.ofChange fnExactWindowOkWrong)

/-- 'laws.FnExactDemandOf': WHATEVER THE INPUT: true; the input reads as it did. -/
def fnExactDemandOfSpec : ChangeSpec := { name := "fnExactDemandOf", fn := fun _ => fun
  | [d1, d2] => { results := [.lit (.bool true)], args := [d1, d2] }
  | _ => none }
def fnExactDemandOfRow : OpenClaim := { program := "ytpjmfmnnkcibjaa", sum := "9717c8e1ca6ca88dcc842327da740122c2538acbc4a7be8bc7ad9c56c95ab3c3", func := "loop.example/g00961/laws.FnExactDemandOf", spec := "fnExactDemandOf", unfollowed := true, recurses := true, apart := false }
def FnExactDemandOfSaid : Prop := fnExactDemandOfRow.holds Try.pinned (OpenSpec.ofChange fnExactDemandOfSpec)

/-- ITS FALSE NEIGHBOUR: 'it returns false'. Refute it at one input. -/
def fnExactDemandOfWrong : ChangeSpec := { name := "fnExactDemandOf", fn := fun _ => fun
  | [d1, d2] => { results := [.lit (.bool false)], args := [d1, d2] }
  | _ => none }
def FnExactDemandOfWrongFalsely : Prop := fnExactDemandOfRow.holds Try.pinned (OpenSpec.ofChange fnExactDemandOfWrong)

/-- 'laws.FnExactDemandsOf': WHATEVER THE INPUT: true; the input reads as it did. -/
def fnExactDemandsOfSpec : ChangeSpec := { name := "fnExactDemandsOf", fn := fun _ => fun
  | [d] => { results := [.lit (.bool true)], args := [d] }
  | _ => none }
def fnExactDemandsOfRow : OpenClaim := { program := "ytpjmfmnnkcibjaa", sum := "9717c8e1ca6ca88dcc842327da740122c2538acbc4a7be8bc7ad9c56c95ab3c3", func := "loop.example/g00961/laws.FnExactDemandsOf", spec := "fnExactDemandsOf", unfollowed := true, recurses := true, apart := false }
def FnExactDemandsOfSaid : Prop := fnExactDemandsOfRow.holds Try.pinned (OpenSpec.ofChange fnExactDemandsOfSpec)

/-- ITS FALSE NEIGHBOUR: 'it returns false'. Refute it at one input. -/
def fnExactDemandsOfWrong : ChangeSpec := { name := "fnExactDemandsOf", fn := fun _ => fun
  | [d] => { results := [.lit (.bool false)], args := [d] }
  | _ => none }
def FnExactDemandsOfWrongFalsely : Prop := fnExactDemandsOfRow.holds Try.pinned (OpenSpec.ofChange fnExactDemandsOfWrong)

/-- 'laws.FnExactTurned': WHATEVER THE INPUT: true; the input reads as it did. -/
def fnExactTurnedSpec : ChangeSpec := { name := "fnExactTurned", fn := fun _ => fun
  | [d] => { results := [.lit (.bool true)], args := [d] }
  | _ => none }
def fnExactTurnedRow : OpenClaim := { program := "ytpjmfmnnkcibjaa", sum := "9717c8e1ca6ca88dcc842327da740122c2538acbc4a7be8bc7ad9c56c95ab3c3", func := "loop.example/g00961/laws.FnExactTurned", spec := "fnExactTurned", unfollowed := true, recurses := true, apart := false }
def FnExactTurnedSaid : Prop := fnExactTurnedRow.holds Try.pinned (OpenSpec.ofChange fnExactTurnedSpec)

/-- ITS FALSE NEIGHBOUR: 'it returns false'. Refute it at one input. -/
def fnExactTurnedWrong : ChangeSpec := { name := "fnExactTurned", fn := fun _ => fun
  | [d] => { results := [.lit (.bool false)], args := [d] }
  | _ => none }
def FnExactTurnedWrongFalsely : Prop := fnExactTurnedRow.holds Try.pinned (OpenSpec.ofChange fnExactTurnedWrong)

/-- 'laws.FnExactOrderIn': WHATEVER THE INPUT: true; the input reads as it did. -/
def fnExactOrderInSpec : ChangeSpec := { name := "fnExactOrderIn", fn := fun _ => fun
  | [d1, d2] => { results := [.lit (.bool true)], args := [d1, d2] }
  | _ => none }
def fnExactOrderInRow : OpenClaim := { program := "ytpjmfmnnkcibjaa", sum := "9717c8e1ca6ca88dcc842327da740122c2538acbc4a7be8bc7ad9c56c95ab3c3", func := "loop.example/g00961/laws.FnExactOrderIn", spec := "fnExactOrderIn", unfollowed := true, recurses := true, apart := false }
def FnExactOrderInSaid : Prop := fnExactOrderInRow.holds Try.pinned (OpenSpec.ofChange fnExactOrderInSpec)

/-- ITS FALSE NEIGHBOUR: 'it returns false'. Refute it at one input. -/
def fnExactOrderInWrong : ChangeSpec := { name := "fnExactOrderIn", fn := fun _ => fun
  | [d1, d2] => { results := [.lit (.bool false)], args := [d1, d2] }
  | _ => none }
def FnExactOrderInWrongFalsely : Prop := fnExactOrderInRow.holds Try.pinned (OpenSpec.ofChange fnExactOrderInWrong)

/-- 'laws.FnWindows': WHATEVER THE INPUT: true; the input reads as it did. -/
def fnWindowsSpec : ChangeSpec := { name := "fnWindows", fn := fun _ => fun
  | [d] => { results := [.lit (.bool true)], args := [d] }
  | _ => none }
def fnWindowsRow : OpenClaim := { program := "ytpjmfmnnkcibjaa", sum := "9717c8e1ca6ca88dcc842327da740122c2538acbc4a7be8bc7ad9c56c95ab3c3", func := "loop.example/g00961/laws.FnWindows", spec := "fnWindows", unfollowed := true, recurses := true, apart := false }
def FnWindowsSaid : Prop := fnWindowsRow.holds Try.pinned (OpenSpec.ofChange fnWindowsSpec)

/-- ITS FALSE NEIGHBOUR: 'it returns false'. Refute it at one input. -/
def fnWindowsWrong : ChangeSpec := { name := "fnWindows", fn := fun _ => fun
  | [d] => { results := [.lit (.bool false)], args := [d] }
  | _ => none }
def FnWindowsWrongFalsely : Prop := fnWindowsRow.holds Try.pinned (OpenSpec.ofChange fnWindowsWrong)

/- THE SECOND FORM. 'bulk': how many values and letters a reading holds, each counted each time it is reached (what is shared counts as often as it is met; a slice's spare places count too). A statement '..UptoSaid' is the law's where the arguments, and the package variables that the reading takes, are together of bulk at most 1048576: NARROWER than '..Said'. Prove '..Said' where nothing that the law and all that it calls make is longer than what came in: it says more and counts as full. Else prove '..UptoSaid'. A law counts once. -/
mutual
def uptoBulk {H : Type} : DataW H → Nat
  | .lit (.string bytes) => bytes.length + 1
  | .lit _ => 1
  | .nil => 1
  | .ptr d => uptoBulk d + 1
  | .slice elems spare => uptoBulkAll elems + uptoBulkAll spare + 1
  | .agg parts => uptoBulkAll parts + 1
  | .iface _ d => uptoBulk d + 1
  | .map entries => uptoBulkEntries entries + 1
  | .held _ => 1
def uptoBulkAll {H : Type} : List (DataW H) → Nat
  | [] => 0
  | d :: r => uptoBulk d + uptoBulkAll r
def uptoBulkEntries {H : Type} : List (Lit × DataW H) → Nat
  | [] => 0
  | x :: r => uptoBulkEntry x + uptoBulkEntries r
def uptoBulkEntry {H : Type} : Lit × DataW H → Nat
  | (.string bytes, d) => bytes.length + uptoBulk d + 1
  | (_, d) => uptoBulk d + 1
 end
def uptoSmall : (H : Type) → List (DataW H) → Bool := fun _ ds => decide (uptoBulkAll ds ≤ 1048576)
def OpenSpec.upto (s : _root_.Go.ChangeSpec) : _root_.Go.OpenSpec := { _root_.Go.OpenSpec.ofChange s with cond := some uptoSmall }

/-- 'laws.FnExactWindowNew', WHERE WHAT IT READS IS OF BULK AT MOST 1048576: true; the input reads as it did. -/
def fnExactWindowNewUptoRow : OpenClaim := { program := "ytpjmfmnnkcibjaa", sum := "9717c8e1ca6ca88dcc842327da740122c2538acbc4a7be8bc7ad9c56c95ab3c3", func := "loop.example/g00961/laws.FnExactWindowNew", spec := "fnExactWindowNew", apart := false, narrowed := true }
def FnExactWindowNewUptoSaid : Prop := fnExactWindowNewUptoRow.holds Try.pinned (OpenSpec.upto fnExactWindowNewSpec)

/-- 'laws.FnExactWindowOk', WHERE WHAT IT READS IS OF BULK AT MOST 1048576: true; the input reads as it did. -/
def fnExactWindowOkUptoRow : OpenClaim := { program := "ytpjmfmnnkcibjaa", sum := "9717c8e1ca6ca88dcc842327da740122c2538acbc4a7be8bc7ad9c56c95ab3c3", func := "loop.example/g00961/laws.FnExactWindowOk", spec := "fnExactWindowOk", unfollowed := true, recurses := true, apart := false, narrowed := true }
def FnExactWindowOkUptoSaid : Prop := fnExactWindowOkUptoRow.holds Try.pinned (OpenSpec.upto fnExactWindowOkSpec)

/-- 'laws.FnExactDemandOf', WHERE WHAT IT READS IS OF BULK AT MOST 1048576: true; the input reads as it did. -/
def fnExactDemandOfUptoRow : OpenClaim := { program := "ytpjmfmnnkcibjaa", sum := "9717c8e1ca6ca88dcc842327da740122c2538acbc4a7be8bc7ad9c56c95ab3c3", func := "loop.example/g00961/laws.FnExactDemandOf", spec := "fnExactDemandOf", unfollowed := true, recurses := true, apart := false, narrowed := true }
def FnExactDemandOfUptoSaid : Prop := fnExactDemandOfUptoRow.holds Try.pinned (OpenSpec.upto fnExactDemandOfSpec)

/-- 'laws.FnExactDemandsOf', WHERE WHAT IT READS IS OF BULK AT MOST 1048576: true; the input reads as it did. -/
def fnExactDemandsOfUptoRow : OpenClaim := { program := "ytpjmfmnnkcibjaa", sum := "9717c8e1ca6ca88dcc842327da740122c2538acbc4a7be8bc7ad9c56c95ab3c3", func := "loop.example/g00961/laws.FnExactDemandsOf", spec := "fnExactDemandsOf", unfollowed := true, recurses := true, apart := false, narrowed := true }
def FnExactDemandsOfUptoSaid : Prop := fnExactDemandsOfUptoRow.holds Try.pinned (OpenSpec.upto fnExactDemandsOfSpec)

/-- 'laws.FnExactTurned', WHERE WHAT IT READS IS OF BULK AT MOST 1048576: true; the input reads as it did. -/
def fnExactTurnedUptoRow : OpenClaim := { program := "ytpjmfmnnkcibjaa", sum := "9717c8e1ca6ca88dcc842327da740122c2538acbc4a7be8bc7ad9c56c95ab3c3", func := "loop.example/g00961/laws.FnExactTurned", spec := "fnExactTurned", unfollowed := true, recurses := true, apart := false, narrowed := true }
def FnExactTurnedUptoSaid : Prop := fnExactTurnedUptoRow.holds Try.pinned (OpenSpec.upto fnExactTurnedSpec)

/-- 'laws.FnExactOrderIn', WHERE WHAT IT READS IS OF BULK AT MOST 1048576: true; the input reads as it did. -/
def fnExactOrderInUptoRow : OpenClaim := { program := "ytpjmfmnnkcibjaa", sum := "9717c8e1ca6ca88dcc842327da740122c2538acbc4a7be8bc7ad9c56c95ab3c3", func := "loop.example/g00961/laws.FnExactOrderIn", spec := "fnExactOrderIn", unfollowed := true, recurses := true, apart := false, narrowed := true }
def FnExactOrderInUptoSaid : Prop := fnExactOrderInUptoRow.holds Try.pinned (OpenSpec.upto fnExactOrderInSpec)

/-- 'laws.FnWindows', WHERE WHAT IT READS IS OF BULK AT MOST 1048576: true; the input reads as it did. -/
def fnWindowsUptoRow : OpenClaim := { program := "ytpjmfmnnkcibjaa", sum := "9717c8e1ca6ca88dcc842327da740122c2538acbc4a7be8bc7ad9c56c95ab3c3", func := "loop.example/g00961/laws.FnWindows", spec := "fnWindows", unfollowed := true, recurses := true, apart := false, narrowed := true }
def FnWindowsUptoSaid : Prop := fnWindowsUptoRow.holds Try.pinned (OpenSpec.upto fnWindowsSpec)

end Rows
end Go.Proofs.Ytpjmfmnnkcibjaa
