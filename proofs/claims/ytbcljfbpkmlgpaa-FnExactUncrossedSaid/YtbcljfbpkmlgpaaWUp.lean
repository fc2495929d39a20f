/- What lies in a world lies there when more has been made or drawn: found by instances, so that the walks are short. (Written by wip/tools/myprint.py.) -/
import Derived.Test.YtbcljfbpkmlgpaaWWords
import Derived.Test.YtbcljfbpkmlgpaaWApart
import Derived.Test.YtbcljfbpkmlgpaaWN
import Derived.Test.YtbcljfbpkmlgpaaWShare
import Derived.Test.YtbcljfbpkmlgpaaWTab
namespace Go.Proofs.YtbcljfbpkmlgpaaW.PrintWords
open Go.RowKit
/-- The bits of m as an array: which operations of a region are done. -/
def bs_ (n m : Nat) : Array Bool := ((List.range n).map m.testBit).toArray
theorem pt_ : (∀ (l : List Value) (i : Nat) (v : Value), l.toArray.setIfInBounds i v = (l.set i v).toArray) ∧ (∀ (x v : Value) (xs : List Value), (x :: xs).set 0 v = v :: xs) ∧ (∀ (x v : Value) (xs : List Value) (n : Nat), (x :: xs).set (n + 1) v = x :: xs.set n v) ∧ (∀ n : Int, IntKind.i64.wrap n = wrap64 n) ∧ (∀ n : Int, IntKind.i32.wrap n = wrap32 n) :=
  ⟨fun _ _ _ => by simp, fun _ _ _ => rfl, fun _ _ _ _ => rfl, fun n => by unfold wrap64; exact IntKind.wrap_i64 n, fun n => by unfold wrap32; exact IntKind.wrap_i32 n⟩
class Up (w w' : World) : Prop where
  up : Below w.heap.size w w'
instance Up.i0 (w : World) : Up w w := ⟨Below.refl _ _⟩
instance Up.i1 (w w' : World) (o : Obj) [h : Up w w'] : Up w (w'.alloc o) := ⟨below_alloc h.up o⟩
instance Up.i2 (w w' : World) (n : Nat) [h : Up w w'] : Up w (w'.drewN n) := ⟨pw_below_drewN h.up n⟩
instance Up.i3 (w w' : World) [h : Up w w'] : Up w w'.drew := ⟨below_drew h.up⟩
section
variable {α : Type} {d : Kd α} {e base n : Nat} {A : Option Addr} {ok oki : Nat → Prop} {w w' : World} {v : Value} {xs : List α} {i : Int} {c : List Value}
theorem uR [u : Up w w'] (h : d.R e w base ok v xs) : d.R e w' base ok v xs := Kd.R_below h u.up
theorem uS [u : Up w w'] (h : Kd.S d e w base ok v xs) : Kd.S d e w' base ok v xs := Kd.S_below h u.up
theorem uN [u : Up w w'] (h : Kd.N d e w base ok v xs) : Kd.N d e w' base ok v xs := Kd.N_below h u.up
theorem uC [u : Up w w'] (h : d.C w A n xs) : d.C w' A n xs := Kd.C_below h u.up
/-- A cell of a row stays where a row of another type is appended to. -/
theorem grown_off {W w1 : World} {β : Type} {d2 : Kd β} {e2 base2 : Nat} {ok2 : Nat → Prop} {ys : List β} {ad : Addr} {e' m cp : Nat} {a : Addr} {z : Value} (hg : W.grownBy w1 v.ownBlock) (h : d2.R e2 W base2 ok2 v ys) (h2 : ∀ k, (Value.slice (some ad) m cp).ownBlock = some k → ∃ cells, W.heap[k]? = some (.cells cells e' (0, 0))) (hne : e2 ≠ e') (hc : W.cell? a = some z) (ha : a.block = ad.block) : w1.cell? a = some z := by
  obtain ⟨cells, hx⟩ := h2 ad.block rfl
  have h4 := hg.block a.block (World.block_lt_of_cell? W a hc) (by rw [ha]; exact Kd.R_ne h hx hne)
  simpa [World.cell?, h4] using hc
theorem uB {w0 : World} [u : Up w w'] (h : Below w0.heap.size w0 w) : Below w0.heap.size w0 w' := below_then h h.size u.up
end
end Go.Proofs.YtbcljfbpkmlgpaaW.PrintWords
namespace Go.Proofs.YtbcljfbpkmlgpaaW.PrintLast
open Go.Proofs.YtbcljfbpkmlgpaaW.PrintWords (Aside0 bs_)
section
variable {P : Program} {ops : Array Oper} {Q : Exit → Act → World → Prop} {md : Region.Mode} {S : World → Prop} {ds : List Nat} {T : Bool × List (List Nat × List Nat)} {B : List Nat} {oi : Oper} {fuel : Nat} {l : Array Bool} {a : Act} {w : World}
theorem pu_ (i : Nat) (N : Tmp) (n m : Nat) (v : Value) (hT : Aside0 (rtab md ops = T)) (hi : ops[i]? = some oi) (hN : oi.dst = some N) (hc : anyT T l.toList (bs_ n m).toList i = true)
    (hQ : ∀ c a w, Q (.panic c) (a.put oi.dst v) w → Q (.panic c) a w) (hy : Yields P ops oi v a) (a' : Act) (ha : a.put (some N) v = a') (h : wpAnyLast P md ops Q S ds fuel (bs_ n m) a' w) : wpAnyLast P md ops Q S ds (fuel + 1) l a w :=
  pure_ (bs_ n m) hi hN (any_of hT.out hc) hQ hy ha h
theorem tk_ (i : Nat) (N : Tmp) (n m : Nat) (v : Value) (hT : Aside0 (rtab md ops = T)) (hB : Aside0 (waitsOk T.2 B = true)) (hi : ops[i]? = some oi) (hN : oi.dst = some N) (hc : takeW T B ds l.toList (bs_ n m).toList i = true)
    (hQ : ∀ c a w, Q (.panic c) (a.put oi.dst v) w → Q (.panic c) a w) (hy : YieldsIf P ops S oi v a) (hS : S w) (a' : Act) (ha : a.put (some N) v = a') (h : wpAnyLast P md ops Q S ds fuel (bs_ n m) a' w) : wpAnyLast P md ops Q S ds (fuel + 1) l a w :=
  take_ (bs_ n m) hi hN (take_ofW hT.out hB.out hc) hQ hy hS ha h
end
end Go.Proofs.YtbcljfbpkmlgpaaW.PrintLast
