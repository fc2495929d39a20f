/-
  No cell of these rows narrows 'for every input' (looked for: loops, veiled, ifaces, maps, wideKeys, modest, calm, conditions, laid).
  DERIVED. THE GIVEN ROWS OF THIS SEAT. 6 by the template 'for every input the law returns true; each argument reads behind the call as it read before'; 0 by the template 'total and deterministic' (their statements: YtngoejcaabgidaaTotals.lean).
  GIVEN WITH THE SEED: the statements are not yours to turn. If you find one false, say at which input.
  Laid BY PROGRAM, IN A SANDBOX (cutbox-rows.mjs): the forced cells as the released guide's own fill.sh prints them over the translation 529397d23f898754… (all of the seat's roots in one cut). By AI agents, Wed Nov 11 2026. No macro, syntax, notation, axiom, sorry.
-/
import Derived.Test.YtngoejcaabgidaaChecked
import GoSem.Claim
import GoSem.ClaimJoined
import GoSem.ClaimMapViews
import Derived.JoinedTies
import Derived.KernelRfl
namespace Go.Proofs.Ytngoejcaabgidaa
/- THE CELL 'sum', in the pinned program and in every row, IS THE sha256 OF THE DUMP (.gsa) THAT YtngoejcaabgidaaProg.lean LOADS. Nothing in Lean hashes anything: it is a label: what it is worth is what the hold of that sum in a sandbox is worth. -/
noncomputable def Try.pinned : Pinned := { name := "ytngoejcaabgidaa", sum := "529397d23f898754d015e6e9f6ddb866befc69e1b994dd48268dbbb350ea3dd9", checked := Try.checked }
namespace Rows
def none {H : Type} : Left H := { results := [], args := [] }

/-- 'laws.FnExactDealOk': WHATEVER THE INPUT: true; the input reads as it did. -/
def fnExactDealOkSpec : ChangeSpec := { name := "fnExactDealOk", fn := fun _ => fun
  | [d1, d2, d3] => { results := [.lit (.bool true)], args := [d1, d2, d3] }
  | _ => none }
def fnExactDealOkRow : OpenClaim := { program := "ytngoejcaabgidaa", sum := "529397d23f898754d015e6e9f6ddb866befc69e1b994dd48268dbbb350ea3dd9", func := "loop.example/g00961/laws.FnExactDealOk", spec := "fnExactDealOk", unfollowed := true, recurses := true, apart := false }
def FnExactDealOkSaid : Prop := fnExactDealOkRow.holds Try.pinned (OpenSpec.ofChange fnExactDealOkSpec)

/-- ITS FALSE NEIGHBOUR: 'it returns false'. Refute it at one input. -/
def fnExactDealOkWrong : ChangeSpec := { name := "fnExactDealOk", fn := fun _ => fun
  | [d1, d2, d3] => { results := [.lit (.bool false)], args := [d1, d2, d3] }
  | _ => none }
def FnExactDealOkWrongFalsely : Prop := fnExactDealOkRow.holds Try.pinned (OpenSpec.ofChange fnExactDealOkWrong)

/-- 'laws.FnExactFullIn': WHATEVER THE INPUT: true; the input reads as it did. -/
def fnExactFullInSpec : ChangeSpec := { name := "fnExactFullIn", fn := fun _ => fun
  | [d1, d2, d3] => { results := [.lit (.bool true)], args := [d1, d2, d3] }
  | _ => none }
def fnExactFullInRow : OpenClaim := { program := "ytngoejcaabgidaa", sum := "529397d23f898754d015e6e9f6ddb866befc69e1b994dd48268dbbb350ea3dd9", func := "loop.example/g00961/laws.FnExactFullIn", spec := "fnExactFullIn", unfollowed := true, recurses := true, apart := false }
def FnExactFullInSaid : Prop := fnExactFullInRow.holds Try.pinned (OpenSpec.ofChange fnExactFullInSpec)

/-- ITS FALSE NEIGHBOUR: 'it returns false'. Refute it at one input. -/
def fnExactFullInWrong : ChangeSpec := { name := "fnExactFullIn", fn := fun _ => fun
  | [d1, d2, d3] => { results := [.lit (.bool false)], args := [d1, d2, d3] }
  | _ => none }
def FnExactFullInWrongFalsely : Prop := fnExactFullInRow.holds Try.pinned (OpenSpec.ofChange fnExactFullInWrong)

/-- 'laws.FnExactFairDeal': WHATEVER THE INPUT: true; the input reads as it did. -/
def fnExactFairDealSpec : ChangeSpec := { name := "fnExactFairDeal", fn := fun _ => fun
  | [d1, d2, d3, d4] => { results := [.lit (.bool true)], args := [d1, d2, d3, d4] }
  | _ => none }
def fnExactFairDealRow : OpenClaim := { program := "ytngoejcaabgidaa", sum := "529397d23f898754d015e6e9f6ddb866befc69e1b994dd48268dbbb350ea3dd9", func := "loop.example/g00961/laws.FnExactFairDeal", spec := "fnExactFairDeal", unfollowed := true, recurses := true, apart := false }
def FnExactFairDealSaid : Prop := fnExactFairDealRow.holds Try.pinned (OpenSpec.ofChange fnExactFairDealSpec)

/-- ITS FALSE NEIGHBOUR: 'it returns false'. Refute it at one input. -/
def fnExactFairDealWrong : ChangeSpec := { name := "fnExactFairDeal", fn := fun _ => fun
  | [d1, d2, d3, d4] => { results := [.lit (.bool false)], args := [d1, d2, d3, d4] }
  | _ => none }
def FnExactFairDealWrongFalsely : Prop := fnExactFairDealRow.holds Try.pinned (OpenSpec.ofChange fnExactFairDealWrong)

/-- 'laws.FnExactDealOf': WHATEVER THE INPUT: true; the input reads as it did. -/
def fnExactDealOfSpec : ChangeSpec := { name := "fnExactDealOf", fn := fun _ => fun
  | [d1, d2, d3] => { results := [.lit (.bool true)], args := [d1, d2, d3] }
  | _ => none }
def fnExactDealOfRow : OpenClaim := { program := "ytngoejcaabgidaa", sum := "529397d23f898754d015e6e9f6ddb866befc69e1b994dd48268dbbb350ea3dd9", func := "loop.example/g00961/laws.FnExactDealOf", spec := "fnExactDealOf", unfollowed := true, recurses := true, apart := false }
def FnExactDealOfSaid : Prop := fnExactDealOfRow.holds Try.pinned (OpenSpec.ofChange fnExactDealOfSpec)

/-- ITS FALSE NEIGHBOUR: 'it returns false'. Refute it at one input. -/
def fnExactDealOfWrong : ChangeSpec := { name := "fnExactDealOf", fn := fun _ => fun
  | [d1, d2, d3] => { results := [.lit (.bool false)], args := [d1, d2, d3] }
  | _ => none }
def FnExactDealOfWrongFalsely : Prop := fnExactDealOfRow.holds Try.pinned (OpenSpec.ofChange fnExactDealOfWrong)

/-- 'laws.FnDeals': WHATEVER THE INPUT: true; the input reads as it did. -/
def fnDealsSpec : ChangeSpec := { name := "fnDeals", fn := fun _ => fun
  | [d] => { results := [.lit (.bool true)], args := [d] }
  | _ => none }
def fnDealsRow : OpenClaim := { program := "ytngoejcaabgidaa", sum := "529397d23f898754d015e6e9f6ddb866befc69e1b994dd48268dbbb350ea3dd9", func := "loop.example/g00961/laws.FnDeals", spec := "fnDeals", unfollowed := true, recurses := true, apart := false }
def FnDealsSaid : Prop := fnDealsRow.holds Try.pinned (OpenSpec.ofChange fnDealsSpec)

/-- ITS FALSE NEIGHBOUR: 'it returns false'. Refute it at one input. -/
def fnDealsWrong : ChangeSpec := { name := "fnDeals", fn := fun _ => fun
  | [d] => { results := [.lit (.bool false)], args := [d] }
  | _ => none }
def FnDealsWrongFalsely : Prop := fnDealsRow.holds Try.pinned (OpenSpec.ofChange fnDealsWrong)

/-- 'laws.FnAllDealt': WHATEVER THE INPUT: true; the input reads as it did. -/
def fnAllDealtSpec : ChangeSpec := { name := "fnAllDealt", fn := fun _ => fun
  | [d] => { results := [.lit (.bool true)], args := [d] }
  | _ => none }
def fnAllDealtRow : OpenClaim := { program := "ytngoejcaabgidaa", sum := "529397d23f898754d015e6e9f6ddb866befc69e1b994dd48268dbbb350ea3dd9", func := "loop.example/g00961/laws.FnAllDealt", spec := "fnAllDealt", unfollowed := true, recurses := true, apart := false }
def FnAllDealtSaid : Prop := fnAllDealtRow.holds Try.pinned (OpenSpec.ofChange fnAllDealtSpec)

/-- ITS FALSE NEIGHBOUR: 'it returns false'. Refute it at one input. -/
def fnAllDealtWrong : ChangeSpec := { name := "fnAllDealt", fn := fun _ => fun
  | [d] => { results := [.lit (.bool false)], args := [d] }
  | _ => none }
def FnAllDealtWrongFalsely : Prop := fnAllDealtRow.holds Try.pinned (OpenSpec.ofChange fnAllDealtWrong)

/- THE SECOND FORM. 'bulk': how many values and letters a reading holds, each counted each time it is reached (what is shared counts as often as it is met; a slice's spare places count too). A statement '..UptoSaid' is the law's where the arguments, and the package variables that the reading takes, are together of bulk at most 1048576: NARROWER than '..Said'. Prove '..Said' where nothing that the law and all that it calls make is longer than what came in: it says more and counts as full. Else prove '..UptoSaid'. A law counts once. -/
mutual
def uptoBulk {H : Type} : DataW H → Nat
  | .lit (.string bytes) => bytes.length + 1
  | .lit _ => 1
  | .nil => 1
  | .ptr d => uptoBulk d + 1
  | .slice elems spare => uptoBulkAll elems + uptoBulkAll spare + 1
  | .agg parts => uptoBulkAll parts + 1
  | .iface _ d => uptoBulk d + 1
  | .map entries => uptoBulkEntries entries + 1
  | .held _ => 1
def uptoBulkAll {H : Type} : List (DataW H) → Nat
  | [] => 0
  | d :: r => uptoBulk d + uptoBulkAll r
def uptoBulkEntries {H : Type} : List (Lit × DataW H) → Nat
  | [] => 0
  | x :: r => uptoBulkEntry x + uptoBulkEntries r
def uptoBulkEntry {H : Type} : Lit × DataW H → Nat
  | (.string bytes, d) => bytes.length + uptoBulk d + 1
  | (_, d) => uptoBulk d + 1
 end
def uptoSmall : (H : Type) → List (DataW H) → Bool := fun _ ds => decide (uptoBulkAll ds ≤ 1048576)
def OpenSpec.upto (s : _root_.Go.ChangeSpec) : _root_.Go.OpenSpec := { _root_.Go.OpenSpec.ofChange s with cond := some uptoSmall }

/-- 'laws.FnExactDealOk', WHERE WHAT IT READS IS OF BULK AT MOST 1048576: true; the input reads as it did. -/
def fnExactDealOkUptoRow : OpenClaim := { program := "ytngoejcaabgidaa", sum := "529397d23f898754d015e6e9f6ddb866befc69e1b994dd48268dbbb350ea3dd9", func := "loop.example/g00961/laws.FnExactDealOk", spec := "fnExactDealOk", unfollowed := true, recurses := true, apart := false, narrowed := true }
def FnExactDealOkUptoSaid : Prop := fnExactDealOkUptoRow.holds Try.pinned (OpenSpec.upto fnExactDealOkSpec)

/-- 'laws.FnExactFullIn', WHERE WHAT IT READS IS OF BULK AT MOST 1048576: true; the input reads as it did. -/
def fnExactFullInUptoRow : OpenClaim := { program := "ytngoejcaabgidaa", sum := "529397d23f898754d015e6e9f6ddb866befc69e1b994dd48268dbbb350ea3dd9", func := "loop.example/g00961/laws.FnExactFullIn", spec := "fnExactFullIn", unfollowed := true, recurses := true, apart := false, narrowed := true }
def FnExactFullInUptoSaid : Prop := fnExactFullInUptoRow.holds Try.pinned (OpenSpec.upto fnExactFullInSpec)

/-- 'laws.FnExactFairDeal', WHERE WHAT IT READS IS OF BULK AT MOST 1048576: true; the input reads as it did. -/
def fnExactFairDealUptoRow : OpenClaim := { program := "ytngoejcaabgidaa", sum := "529397d23f898754d015e6e9f6ddb866befc69e1b994dd48268dbbb350ea3dd9", func := "loop.example/g00961/laws.FnExactFairDeal", spec := "fnExactFairDeal", unfollowed := true, recurses := true, apart := false, narrowed := true }
def FnExactFairDealUptoSaid : Prop := fnExactFairDealUptoRow.holds Try.pinned (OpenSpec.upto fnExactFairDealSpec)

/-- 'laws.FnExactDealOf', WHERE WHAT IT READS IS OF BULK AT MOST 1048576: true; the input reads as it did. -/
def fnExactDealOfUptoRow : OpenClaim := { program := "ytngoejcaabgidaa", sum := "529397d23f898754d015e6e9f6ddb866befc69e1b994dd48268dbbb350ea3dd9", func := "loop.example/g00961/laws.FnExactDealOf", spec := "fnExactDealOf", unfollowed := true, recurses := true, apart := false, narrowed := true }
def FnExactDealOfUptoSaid : Prop := fnExactDealOfUptoRow.holds Try.pinned (OpenSpec.upto fnExactDealOfSpec)

/-- 'laws.FnDeals', WHERE WHAT IT READS IS OF BULK AT MOST 1048576: true; the input reads as it did. -/
def fnDealsUptoRow : OpenClaim := { program := "ytngoejcaabgidaa", sum := "529397d23f898754d015e6e9f6ddb866befc69e1b994dd48268dbbb350ea3dd9", func := "loop.example/g00961/laws.FnDeals", spec := "fnDeals", unfollowed := true, recurses := true, apart := false, narrowed := true }
def FnDealsUptoSaid : Prop := fnDealsUptoRow.holds Try.pinned (OpenSpec.upto fnDealsSpec)

/-- 'laws.FnAllDealt', WHERE WHAT IT READS IS OF BULK AT MOST 1048576: true; the input reads as it did. -/
def fnAllDealtUptoRow : OpenClaim := { program := "ytngoejcaabgidaa", sum := "529397d23f898754d015e6e9f6ddb866befc69e1b994dd48268dbbb350ea3dd9", func := "loop.example/g00961/laws.FnAllDealt", spec := "fnAllDealt", unfollowed := true, recurses := true, apart := false, narrowed := true }
def FnAllDealtUptoSaid : Prop := fnAllDealtUptoRow.holds Try.pinned (OpenSpec.upto fnAllDealtSpec)

end Rows
end Go.Proofs.Ytngoejcaabgidaa
