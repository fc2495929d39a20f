/-
  No cell of these rows narrows 'for every input' (looked for: loops, veiled, ifaces, maps, wideKeys, modest, calm, conditions, laid).
  DERIVED. THE GIVEN ROWS OF THIS SEAT. 10 by the template 'for every input the law returns true; each argument reads behind the call as it read before'; 0 by the template 'total and deterministic' (their statements: YtbcljfbpkmlgpaaTotals.lean).
  GIVEN WITH THE SEED: the statements are not yours to turn. If you find one false, say at which input.
  Laid BY PROGRAM, IN A SANDBOX (cutbox-rows.mjs): the forced cells as the released guide's own fill.sh prints them over the translation 811e45c93459b1e6… (all of the seat's roots in one cut). By AI agents, Wed Nov 11 2026. No macro, syntax, notation, axiom, sorry.
-/
import Derived.Test.YtbcljfbpkmlgpaaChecked
import GoSem.Claim
import GoSem.ClaimJoined
import GoSem.ClaimMapViews
import Derived.JoinedTies
import Derived.KernelRfl
namespace Go.Proofs.Ytbcljfbpkmlgpaa
/- THE CELL 'sum', in the pinned program and in every row, IS THE sha256 OF THE DUMP (.gsa) THAT YtbcljfbpkmlgpaaProg.lean LOADS. Nothing in Lean hashes anything: it is a label: what it is worth is what the hold of that sum in a sandbox is worth. -/
noncomputable def Try.pinned : Pinned := { name := "ytbcljfbpkmlgpaa", sum := "811e45c93459b1e6f0b4c054878eaf8badc4fbffa30b95e21c796c544677813d", checked := Try.checked }
namespace Rows
def none {H : Type} : Left H := { results := [], args := [] }

/-- 'laws.FnExactMovesOf': WHATEVER THE INPUT: true; the input reads as it did. -/
def fnExactMovesOfSpec : ChangeSpec := { name := "fnExactMovesOf", fn := fun _ => fun
  | [d] => { results := [.lit (.bool true)], args := [d] }
  | _ => none }
def fnExactMovesOfRow : OpenClaim := { program := "ytbcljfbpkmlgpaa", sum := "811e45c93459b1e6f0b4c054878eaf8badc4fbffa30b95e21c796c544677813d", func := "loop.example/g00961/laws.FnExactMovesOf", spec := "fnExactMovesOf", apart := false }
def FnExactMovesOfSaid : Prop := fnExactMovesOfRow.holds Try.pinned (OpenSpec.ofChange fnExactMovesOfSpec)

/-- ITS FALSE NEIGHBOUR: 'it returns false'. Refute it at one input. -/
def fnExactMovesOfWrong : ChangeSpec := { name := "fnExactMovesOf", fn := fun _ => fun
  | [d] => { results := [.lit (.bool false)], args := [d] }
  | _ => none }
def FnExactMovesOfWrongFalsely : Prop := fnExactMovesOfRow.holds Try.pinned (OpenSpec.ofChange fnExactMovesOfWrong)

/-- 'laws.FnExactLevelWays': WHATEVER THE INPUT: true; the input reads as it did. -/
def fnExactLevelWaysSpec : ChangeSpec := { name := "fnExactLevelWays", fn := fun _ => fun
  | [d1, d2] => { results := [.lit (.bool true)], args := [d1, d2] }
  | _ => none }
def fnExactLevelWaysRow : OpenClaim := { program := "ytbcljfbpkmlgpaa", sum := "811e45c93459b1e6f0b4c054878eaf8badc4fbffa30b95e21c796c544677813d", func := "loop.example/g00961/laws.FnExactLevelWays", spec := "fnExactLevelWays", unfollowed := true, recurses := true, apart := false }
def FnExactLevelWaysSaid : Prop := fnExactLevelWaysRow.holds Try.pinned (OpenSpec.ofChange fnExactLevelWaysSpec)

/-- ITS FALSE NEIGHBOUR: 'it returns false'. Refute it at one input. -/
def fnExactLevelWaysWrong : ChangeSpec := { name := "fnExactLevelWays", fn := fun _ => fun
  | [d1, d2] => { results := [.lit (.bool false)], args := [d1, d2] }
  | _ => none }
def FnExactLevelWaysWrongFalsely : Prop := fnExactLevelWaysRow.holds Try.pinned (OpenSpec.ofChange fnExactLevelWaysWrong)

/-- 'laws.FnExactMeetAt': WHATEVER THE INPUT: true; the input reads as it did. -/
def fnExactMeetAtSpec : ChangeSpec := { name := "fnExactMeetAt", fn := fun _ => fun
  | [d1, d2] => { results := [.lit (.bool true)], args := [d1, d2] }
  | _ => none }
def fnExactMeetAtRow : OpenClaim := { program := "ytbcljfbpkmlgpaa", sum := "811e45c93459b1e6f0b4c054878eaf8badc4fbffa30b95e21c796c544677813d", func := "loop.example/g00961/laws.FnExactMeetAt", spec := "fnExactMeetAt", unfollowed := true, recurses := true, apart := false }
def FnExactMeetAtSaid : Prop := fnExactMeetAtRow.holds Try.pinned (OpenSpec.ofChange fnExactMeetAtSpec)

/-- ITS FALSE NEIGHBOUR: 'it returns false'. Refute it at one input. -/
def fnExactMeetAtWrong : ChangeSpec := { name := "fnExactMeetAt", fn := fun _ => fun
  | [d1, d2] => { results := [.lit (.bool false)], args := [d1, d2] }
  | _ => none }
def FnExactMeetAtWrongFalsely : Prop := fnExactMeetAtRow.holds Try.pinned (OpenSpec.ofChange fnExactMeetAtWrong)

/-- 'laws.FnExactRingsAt': WHATEVER THE INPUT: true; the input reads as it did. -/
def fnExactRingsAtSpec : ChangeSpec := { name := "fnExactRingsAt", fn := fun _ => fun
  | [d1, d2] => { results := [.lit (.bool true)], args := [d1, d2] }
  | _ => none }
def fnExactRingsAtRow : OpenClaim := { program := "ytbcljfbpkmlgpaa", sum := "811e45c93459b1e6f0b4c054878eaf8badc4fbffa30b95e21c796c544677813d", func := "loop.example/g00961/laws.FnExactRingsAt", spec := "fnExactRingsAt", unfollowed := true, recurses := true, apart := false }
def FnExactRingsAtSaid : Prop := fnExactRingsAtRow.holds Try.pinned (OpenSpec.ofChange fnExactRingsAtSpec)

/-- ITS FALSE NEIGHBOUR: 'it returns false'. Refute it at one input. -/
def fnExactRingsAtWrong : ChangeSpec := { name := "fnExactRingsAt", fn := fun _ => fun
  | [d1, d2] => { results := [.lit (.bool false)], args := [d1, d2] }
  | _ => none }
def FnExactRingsAtWrongFalsely : Prop := fnExactRingsAtRow.holds Try.pinned (OpenSpec.ofChange fnExactRingsAtWrong)

/-- 'laws.FnExactSwapsAt': WHATEVER THE INPUT: true; the input reads as it did. -/
def fnExactSwapsAtSpec : ChangeSpec := { name := "fnExactSwapsAt", fn := fun _ => fun
  | [d1, d2] => { results := [.lit (.bool true)], args := [d1, d2] }
  | _ => none }
def fnExactSwapsAtRow : OpenClaim := { program := "ytbcljfbpkmlgpaa", sum := "811e45c93459b1e6f0b4c054878eaf8badc4fbffa30b95e21c796c544677813d", func := "loop.example/g00961/laws.FnExactSwapsAt", spec := "fnExactSwapsAt", unfollowed := true, recurses := true, apart := false }
def FnExactSwapsAtSaid : Prop := fnExactSwapsAtRow.holds Try.pinned (OpenSpec.ofChange fnExactSwapsAtSpec)

/-- ITS FALSE NEIGHBOUR: 'it returns false'. Refute it at one input. -/
def fnExactSwapsAtWrong : ChangeSpec := { name := "fnExactSwapsAt", fn := fun _ => fun
  | [d1, d2] => { results := [.lit (.bool false)], args := [d1, d2] }
  | _ => none }
def FnExactSwapsAtWrongFalsely : Prop := fnExactSwapsAtRow.holds Try.pinned (OpenSpec.ofChange fnExactSwapsAtWrong)

/-- 'laws.FnExactCrossings': WHATEVER THE INPUT: true; the input reads as it did. -/
def fnExactCrossingsSpec : ChangeSpec := { name := "fnExactCrossings", fn := fun _ => fun
  | [d] => { results := [.lit (.bool true)], args := [d] }
  | _ => none }
def fnExactCrossingsRow : OpenClaim := { program := "ytbcljfbpkmlgpaa", sum := "811e45c93459b1e6f0b4c054878eaf8badc4fbffa30b95e21c796c544677813d", func := "loop.example/g00961/laws.FnExactCrossings", spec := "fnExactCrossings", unfollowed := true, recurses := true, apart := false }
def FnExactCrossingsSaid : Prop := fnExactCrossingsRow.holds Try.pinned (OpenSpec.ofChange fnExactCrossingsSpec)

/-- ITS FALSE NEIGHBOUR: 'it returns false'. Refute it at one input. -/
def fnExactCrossingsWrong : ChangeSpec := { name := "fnExactCrossings", fn := fun _ => fun
  | [d] => { results := [.lit (.bool false)], args := [d] }
  | _ => none }
def FnExactCrossingsWrongFalsely : Prop := fnExactCrossingsRow.holds Try.pinned (OpenSpec.ofChange fnExactCrossingsWrong)

/-- 'laws.FnExactUncrossed': WHATEVER THE INPUT: true; the input reads as it did. -/
def fnExactUncrossedSpec : ChangeSpec := { name := "fnExactUncrossed", fn := fun _ => fun
  | [d] => { results := [.lit (.bool true)], args := [d] }
  | _ => none }
def fnExactUncrossedRow : OpenClaim := { program := "ytbcljfbpkmlgpaa", sum := "811e45c93459b1e6f0b4c054878eaf8badc4fbffa30b95e21c796c544677813d", func := "loop.example/g00961/laws.FnExactUncrossed", spec := "fnExactUncrossed", unfollowed := true, recurses := true, apart := false }
def FnExactUncrossedSaid : Prop := fnExactUncrossedRow.holds Try.pinned (OpenSpec.ofChange fnExactUncrossedSpec)

/-- ITS FALSE NEIGHBOUR: 'it returns false'. Refute it at one input. -/
def fnExactUncrossedWrong : ChangeSpec := { name := "fnExactUncrossed", fn := fun _ => fun
  | [d] => { results := [.lit (.bool false)], args := [d] }
  | _ => none }
def FnExactUncrossedWrongFalsely : Prop := fnExactUncrossedRow.holds Try.pinned (OpenSpec.ofChange fnExactUncrossedWrong)

/-- 'laws.FnExactEndsOf': WHATEVER THE INPUT: true; the input reads as it did. -/
def fnExactEndsOfSpec : ChangeSpec := { name := "fnExactEndsOf", fn := fun _ => fun
  | [d] => { results := [.lit (.bool true)], args := [d] }
  | _ => none }
def fnExactEndsOfRow : OpenClaim := { program := "ytbcljfbpkmlgpaa", sum := "811e45c93459b1e6f0b4c054878eaf8badc4fbffa30b95e21c796c544677813d", func := "loop.example/g00961/laws.FnExactEndsOf", spec := "fnExactEndsOf", recurses := true, apart := false }
def FnExactEndsOfSaid : Prop := fnExactEndsOfRow.holds Try.pinned (OpenSpec.ofChange fnExactEndsOfSpec)

/-- ITS FALSE NEIGHBOUR: 'it returns false'. Refute it at one input. -/
def fnExactEndsOfWrong : ChangeSpec := { name := "fnExactEndsOf", fn := fun _ => fun
  | [d] => { results := [.lit (.bool false)], args := [d] }
  | _ => none }
def FnExactEndsOfWrongFalsely : Prop := fnExactEndsOfRow.holds Try.pinned (OpenSpec.ofChange fnExactEndsOfWrong)

/-- 'laws.FnExactCellsUsed': WHATEVER THE INPUT: true; the input reads as it did. -/
def fnExactCellsUsedSpec : ChangeSpec := { name := "fnExactCellsUsed", fn := fun _ => fun
  | [d] => { results := [.lit (.bool true)], args := [d] }
  | _ => none }
def fnExactCellsUsedRow : OpenClaim := { program := "ytbcljfbpkmlgpaa", sum := "811e45c93459b1e6f0b4c054878eaf8badc4fbffa30b95e21c796c544677813d", func := "loop.example/g00961/laws.FnExactCellsUsed", spec := "fnExactCellsUsed", recurses := true, apart := false }
def FnExactCellsUsedSaid : Prop := fnExactCellsUsedRow.holds Try.pinned (OpenSpec.ofChange fnExactCellsUsedSpec)

/-- ITS FALSE NEIGHBOUR: 'it returns false'. Refute it at one input. -/
def fnExactCellsUsedWrong : ChangeSpec := { name := "fnExactCellsUsed", fn := fun _ => fun
  | [d] => { results := [.lit (.bool false)], args := [d] }
  | _ => none }
def FnExactCellsUsedWrongFalsely : Prop := fnExactCellsUsedRow.holds Try.pinned (OpenSpec.ofChange fnExactCellsUsedWrong)

/-- 'laws.FnExactSameStands': WHATEVER THE INPUT: true; the input reads as it did. -/
def fnExactSameStandsSpec : ChangeSpec := { name := "fnExactSameStands", fn := fun _ => fun
  | [d1, d2] => { results := [.lit (.bool true)], args := [d1, d2] }
  | _ => none }
def fnExactSameStandsRow : OpenClaim := { program := "ytbcljfbpkmlgpaa", sum := "811e45c93459b1e6f0b4c054878eaf8badc4fbffa30b95e21c796c544677813d", func := "loop.example/g00961/laws.FnExactSameStands", spec := "fnExactSameStands", unfollowed := true, recurses := true, apart := false }
def FnExactSameStandsSaid : Prop := fnExactSameStandsRow.holds Try.pinned (OpenSpec.ofChange fnExactSameStandsSpec)

/-- ITS FALSE NEIGHBOUR: 'it returns false'. Refute it at one input. -/
def fnExactSameStandsWrong : ChangeSpec := { name := "fnExactSameStands", fn := fun _ => fun
  | [d1, d2] => { results := [.lit (.bool false)], args := [d1, d2] }
  | _ => none }
def FnExactSameStandsWrongFalsely : Prop := fnExactSameStandsRow.holds Try.pinned (OpenSpec.ofChange fnExactSameStandsWrong)

/- THE SECOND FORM. 'bulk': how many values and letters a reading holds, each counted each time it is reached (what is shared counts as often as it is met; a slice's spare places count too). A statement '..UptoSaid' is the law's where the arguments, and the package variables that the reading takes, are together of bulk at most 1048576: NARROWER than '..Said'. Prove '..Said' where nothing that the law and all that it calls make is longer than what came in: it says more and counts as full. Else prove '..UptoSaid'. A law counts once. -/
mutual
def uptoBulk {H : Type} : DataW H → Nat
  | .lit (.string bytes) => bytes.length + 1
  | .lit _ => 1
  | .nil => 1
  | .ptr d => uptoBulk d + 1
  | .slice elems spare => uptoBulkAll elems + uptoBulkAll spare + 1
  | .agg parts => uptoBulkAll parts + 1
  | .iface _ d => uptoBulk d + 1
  | .map entries => uptoBulkEntries entries + 1
  | .held _ => 1
def uptoBulkAll {H : Type} : List (DataW H) → Nat
  | [] => 0
  | d :: r => uptoBulk d + uptoBulkAll r
def uptoBulkEntries {H : Type} : List (Lit × DataW H) → Nat
  | [] => 0
  | x :: r => uptoBulkEntry x + uptoBulkEntries r
def uptoBulkEntry {H : Type} : Lit × DataW H → Nat
  | (.string bytes, d) => bytes.length + uptoBulk d + 1
  | (_, d) => uptoBulk d + 1
 end
def uptoSmall : (H : Type) → List (DataW H) → Bool := fun _ ds => decide (uptoBulkAll ds ≤ 1048576)
def OpenSpec.upto (s : _root_.Go.ChangeSpec) : _root_.Go.OpenSpec := { _root_.Go.OpenSpec.ofChange s with cond := some uptoSmall }

/-- 'laws.FnExactMovesOf', WHERE WHAT IT READS IS OF BULK AT MOST 1048576: true; the input reads as it did. -/
def fnExactMovesOfUptoRow : OpenClaim := { program := "ytbcljfbpkmlgpaa", sum := "811e45c93459b1e6f0b4c054878eaf8badc4fbffa30b95e21c796c544677813d", func := "loop.example/g00961/laws.FnExactMovesOf", spec := "fnExactMovesOf", apart := false, narrowed := true }
def FnExactMovesOfUptoSaid : Prop := fnExactMovesOfUptoRow.holds Try.pinned (OpenSpec.upto fnExactMovesOfSpec)

/-- 'laws.FnExactLevelWays', WHERE WHAT IT READS IS OF BULK AT MOST 1048576: true; the input reads as it did. -/
def fnExactLevelWaysUptoRow : OpenClaim := { program := "ytbcljfbpkmlgpaa", sum := "811e45c93459b1e6f0b4c054878eaf8badc4fbffa30b95e21c796c544677813d", func := "loop.example/g00961/laws.FnExactLevelWays", spec := "fnExactLevelWays", unfollowed := true, recurses := true, apart := false, narrowed := true }
def FnExactLevelWaysUptoSaid : Prop := fnExactLevelWaysUptoRow.holds Try.pinned (OpenSpec.upto fnExactLevelWaysSpec)

/-- 'laws.FnExactMeetAt', WHERE WHAT IT READS IS OF BULK AT MOST 1048576: true; the input reads as it did. -/
def fnExactMeetAtUptoRow : OpenClaim := { program := "ytbcljfbpkmlgpaa", sum := "811e45c93459b1e6f0b4c054878eaf8badc4fbffa30b95e21c796c544677813d", func := "loop.example/g00961/laws.FnExactMeetAt", spec := "fnExactMeetAt", unfollowed := true, recurses := true, apart := false, narrowed := true }
def FnExactMeetAtUptoSaid : Prop := fnExactMeetAtUptoRow.holds Try.pinned (OpenSpec.upto fnExactMeetAtSpec)

/-- 'laws.FnExactRingsAt', WHERE WHAT IT READS IS OF BULK AT MOST 1048576: true; the input reads as it did. -/
def fnExactRingsAtUptoRow : OpenClaim := { program := "ytbcljfbpkmlgpaa", sum := "811e45c93459b1e6f0b4c054878eaf8badc4fbffa30b95e21c796c544677813d", func := "loop.example/g00961/laws.FnExactRingsAt", spec := "fnExactRingsAt", unfollowed := true, recurses := true, apart := false, narrowed := true }
def FnExactRingsAtUptoSaid : Prop := fnExactRingsAtUptoRow.holds Try.pinned (OpenSpec.upto fnExactRingsAtSpec)

/-- 'laws.FnExactSwapsAt', WHERE WHAT IT READS IS OF BULK AT MOST 1048576: true; the input reads as it did. -/
def fnExactSwapsAtUptoRow : OpenClaim := { program := "ytbcljfbpkmlgpaa", sum := "811e45c93459b1e6f0b4c054878eaf8badc4fbffa30b95e21c796c544677813d", func := "loop.example/g00961/laws.FnExactSwapsAt", spec := "fnExactSwapsAt", unfollowed := true, recurses := true, apart := false, narrowed := true }
def FnExactSwapsAtUptoSaid : Prop := fnExactSwapsAtUptoRow.holds Try.pinned (OpenSpec.upto fnExactSwapsAtSpec)

/-- 'laws.FnExactCrossings', WHERE WHAT IT READS IS OF BULK AT MOST 1048576: true; the input reads as it did. -/
def fnExactCrossingsUptoRow : OpenClaim := { program := "ytbcljfbpkmlgpaa", sum := "811e45c93459b1e6f0b4c054878eaf8badc4fbffa30b95e21c796c544677813d", func := "loop.example/g00961/laws.FnExactCrossings", spec := "fnExactCrossings", unfollowed := true, recurses := true, apart := false, narrowed := true }
def FnExactCrossingsUptoSaid : Prop := fnExactCrossingsUptoRow.holds Try.pinned (OpenSpec.upto fnExactCrossingsSpec)

/-- 'laws.FnExactUncrossed', WHERE WHAT IT READS IS OF BULK AT MOST 1048576: true; the input reads as it did. -/
def fnExactUncrossedUptoRow : OpenClaim := { program := "ytbcljfbpkmlgpaa", sum := "811e45c93459b1e6f0b4c054878eaf8badc4fbffa30b95e21c796c544677813d", func := "loop.example/g00961/laws.FnExactUncrossed", spec := "fnExactUncrossed", unfollowed := true, recurses := true, apart := false, narrowed := true }
def FnExactUncrossedUptoSaid : Prop := fnExactUncrossedUptoRow.holds Try.pinned (OpenSpec.upto fnExactUncrossedSpec)

/-- 'laws.FnExactEndsOf', WHERE WHAT IT READS IS OF BULK AT MOST 1048576: true; the input reads as it did. -/
def fnExactEndsOfUptoRow : OpenClaim := { program := "ytbcljfbpkmlgpaa", sum := "811e45c93459b1e6f0b4c054878eaf8badc4fbffa30b95e21c796c544677813d", func := "loop.example/g00961/laws.FnExactEndsOf", spec := "fnExactEndsOf", recurses := true, apart := false, narrowed := true }
def FnExactEndsOfUptoSaid : Prop := fnExactEndsOfUptoRow.holds Try.pinned (OpenSpec.upto fnExactEndsOfSpec)

/-- 'laws.FnExactCellsUsed', WHERE WHAT IT READS IS OF BULK AT MOST 1048576: true; the input reads as it did. -/
def fnExactCellsUsedUptoRow : OpenClaim := { program := "ytbcljfbpkmlgpaa", sum := "811e45c93459b1e6f0b4c054878eaf8badc4fbffa30b95e21c796c544677813d", func := "loop.example/g00961/laws.FnExactCellsUsed", spec := "fnExactCellsUsed", recurses := true, apart := false, narrowed := true }
def FnExactCellsUsedUptoSaid : Prop := fnExactCellsUsedUptoRow.holds Try.pinned (OpenSpec.upto fnExactCellsUsedSpec)

/-- 'laws.FnExactSameStands', WHERE WHAT IT READS IS OF BULK AT MOST 1048576: true; the input reads as it did. -/
def fnExactSameStandsUptoRow : OpenClaim := { program := "ytbcljfbpkmlgpaa", sum := "811e45c93459b1e6f0b4c054878eaf8badc4fbffa30b95e21c796c544677813d", func := "loop.example/g00961/laws.FnExactSameStands", spec := "fnExactSameStands", unfollowed := true, recurses := true, apart := false, narrowed := true }
def FnExactSameStandsUptoSaid : Prop := fnExactSameStandsUptoRow.holds Try.pinned (OpenSpec.upto fnExactSameStandsSpec)

end Rows
end Go.Proofs.Ytbcljfbpkmlgpaa
