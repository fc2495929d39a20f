/- What lies in a world lies there when more has been made or drawn: found by instances, so that the walks are short. (Written by wip/tools/myprint.py.) -/
import Derived.Test.YtmdkfmbgddhjcaaWWords
import Derived.Test.YtmdkfmbgddhjcaaWApart
import Derived.Test.YtmdkfmbgddhjcaaWN
import Derived.Test.YtmdkfmbgddhjcaaWShare
namespace Go.Proofs.YtmdkfmbgddhjcaaW.PrintWords
open Go.RowKit
class Up (w w' : World) : Prop where
  up : Below w.heap.size w w'
instance Up.i0 (w : World) : Up w w := ⟨Below.refl _ _⟩
instance Up.i1 (w w' : World) (o : Obj) [h : Up w w'] : Up w (w'.alloc o) := ⟨below_alloc h.up o⟩
instance Up.i2 (w w' : World) (n : Nat) [h : Up w w'] : Up w (w'.drewN n) := ⟨pw_below_drewN h.up n⟩
instance Up.i3 (w w' : World) [h : Up w w'] : Up w w'.drew := ⟨below_drew h.up⟩
section
variable {α : Type} {d : Kd α} {e base n : Nat} {A : Option Addr} {ok oki : Nat → Prop} {w w' : World} {v : Value} {xs : List α} {i : Int} {c : List Value}
theorem uR [u : Up w w'] (h : d.R e w base ok v xs) : d.R e w' base ok v xs := Kd.R_below h u.up
theorem uS [u : Up w w'] (h : Kd.S d e w base ok v xs) : Kd.S d e w' base ok v xs := Kd.S_below h u.up
theorem uC [u : Up w w'] (h : d.C w A n xs) : d.C w' A n xs := Kd.C_below h u.up
theorem uB {w0 : World} [u : Up w w'] (h : Below w0.heap.size w0 w) : Below w0.heap.size w0 w' := below_then h h.size u.up
end
end Go.Proofs.YtmdkfmbgddhjcaaW.PrintWords
