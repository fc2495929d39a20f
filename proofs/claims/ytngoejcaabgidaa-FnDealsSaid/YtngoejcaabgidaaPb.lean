/- Plain facts that all the proofs share. -/
import Derived.Test.YtngoejcaabgidaaQ0
namespace Go.Proofs.Ytngoejcaabgidaa.Pure
open Go.RowKit Go.Proofs.Ytngoejcaabgidaa.Q Go.Proofs.YtngoejcaabgidaaW.PrintWords Go.Proofs.YtngoejcaabgidaaW.PrintLast

theorem w64 {x : Int} (h0 : -9223372036854775808 ≤ x) (h1 : x ≤ 9223372036854775807) : wrap64 x = x := by unfold wrap64; omega
theorem rd_nat (l : List Int) (i : Nat) : rd l (i : Int) = l.getD i 0 := by simp [rd]
theorem rd_get (l : List Int) (i : Nat) (h : i < l.length) : rd l (i : Int) = l[i] := by simp [rd, h]
theorem drop_cons {α : Type} (l : List α) (i : Nat) (h : i < l.length) : l.drop i = l[i] :: l.drop (i + 1) := List.drop_eq_getElem_cons h
/-- The numbers m, m + 1, .. -/
def iota (m : Int) : Nat → List Int
  | 0 => []
  | d + 1 => m :: iota (m + 1) d
theorem iota_length : ∀ (m : Int) (d : Nat), (iota m d).length = d
  | _, 0 => rfl
  | m, d + 1 => by simp [iota, iota_length (m + 1) d]

end Go.Proofs.Ytngoejcaabgidaa.Pure
