/- What lies in a world lies there when more has been made or drawn: found by instances, so that the walks are short. (Written by wip/tools/myprint.py.) -/
import Derived.KernelRfl
import Derived.Test.YtkdemainohfgfaaWWords
import Derived.Test.YtkdemainohfgfaaWApart
import Derived.Test.YtkdemainohfgfaaWN
import Derived.Test.YtkdemainohfgfaaWShare
import Derived.Test.YtkdemainohfgfaaWTab
namespace Go.Proofs.YtkdemainohfgfaaW.PrintWords
open Go.RowKit
/-- The bits of m as an array: which operations of a region are done. -/
def bs_ (n m : Nat) : Array Bool := ((List.range n).map m.testBit).toArray
theorem pt_ : (∀ (l : List Value) (i : Nat) (v : Value), l.toArray.setIfInBounds i v = (l.set i v).toArray) ∧ (∀ (x v : Value) (xs : List Value), (x :: xs).set 0 v = v :: xs) ∧ (∀ (x v : Value) (xs : List Value) (n : Nat), (x :: xs).set (n + 1) v = x :: xs.set n v) ∧ (∀ n : Int, IntKind.i64.wrap n = wrap64 n) ∧ (∀ n : Int, IntKind.i32.wrap n = wrap32 n) :=
  ⟨fun _ _ _ => by simp, fun _ _ _ => rfl, fun _ _ _ _ => rfl, fun n => by unfold wrap64; exact IntKind.wrap_i64 n, fun n => by unfold wrap32; exact IntKind.wrap_i32 n⟩
class Up (w w' : World) : Prop where
  up : Below w.heap.size w w'
instance Up.i0 (w : World) : Up w w := ⟨Below.refl _ _⟩
instance Up.i1 (w w' : World) (o : Obj) [h : Up w w'] : Up w (w'.alloc o) := ⟨below_alloc h.up o⟩
instance Up.i2 (w w' : World) (n : Nat) [h : Up w w'] : Up w (w'.drewN n) := ⟨pw_below_drewN h.up n⟩
instance Up.i3 (w w' : World) [h : Up w w'] : Up w w'.drew := ⟨below_drew h.up⟩
instance Up.i4 (w : World) (n : Nat) (p : Addr) (v : Value) : Up (w.setCell p v) ((w.drewN n).setCell p v) := ⟨show Below _ _ ((w.setCell p v).drewN n) from pw_below_drewN (Below.refl _ _) n⟩
section
variable {α : Type} {d : Kd α} {e base n : Nat} {A : Option Addr} {ok oki : Nat → Prop} {w w' : World} {v : Value} {xs : List α} {i : Int} {c : List Value}
theorem uR [u : Up w w'] (h : d.R e w base ok v xs) : d.R e w' base ok v xs := Kd.R_below h u.up
theorem uQ [u : Up w w'] (h : d.Q e w base ok v xs) : d.Q e w' base ok v xs := Kd.Q_below h u.up
theorem uS [u : Up w w'] (h : Kd.S d e w base ok v xs) : Kd.S d e w' base ok v xs := Kd.S_below h u.up
theorem uC [u : Up w w'] (h : d.C w A n xs) : d.C w' A n xs := Kd.C_below h u.up
theorem uB {w0 : World} [u : Up w w'] (h : Below w0.heap.size w0 w) : Below w0.heap.size w0 w' := below_then h h.size u.up
end
/-! Words for shorter walks (wip/tools/squeeze.py) -/
theorem uK {w w' : World} {g : Nat} {o : Obj} [u : Up w w'] (h : w.heap[g]? = some o) : w'.heap[g]? = some o := blk_below h u.up
theorem od_ {p : Prop} [Decidable p] (h : decide p = true := by first | (with_reducible assumption) | assumption) : p := of_decide_eq_true h
theorem ev_ {α : Sort _} {a b : α} (h : a = b := by first | rfl | (simp; done) | (simp [*]; done)) : a = b := h
theorem zk_ {W : World} {g : Nat} {o : Obj} (h : W.heap[g]? = some o := by repeat (first | (with_reducible first | refine blk_drewN ?_ _ | refine blk_drew ?_ | refine blk_alloc ?_ _ | apply blk_put) | refine blk_far ?_ (Aside0.out (by assumption)) _ | exact Aside0.out (by assumption) | rfl)) : W.heap[g]? = some o := h
theorem hz_ {Q : Prop} (h : Q := by first | (rw [hy_]; with_reducible exact H) | (have H2_ := (Option.bind_some _ _).symm.trans H; rw [hy_]; with_reducible exact H2_) | (have H2_ := (Option.bind_some _ _).symm.trans H; with_reducible exact H2_) | with_reducible exact H | (rw [hy_]; exact H) | exact H) : Q := h
theorem bw_ {w W : World} (h : Below w.heap.size w W := by repeat (first | (with_reducible first | exact HB.out | apply below_alloc | apply pw_below_drewN | apply below_drew1 | refine below_set ?_ (Aside0.out (by assumption))) | exact HB.out)) : Below w.heap.size w W := h
theorem kw_ (w : World) {W : World} {g : Nat} {row : Option Nat} (h : KeepBut w W g row := by repeat (first | (with_reducible first | exact HK.out | apply KeepBut.set_ | apply keep_drewN | apply keep_drew | apply keep_alloc | refine keep_far ?_ (Aside0.out (by assumption)) _) | exact HK.out)) : KeepBut w W g row := h
theorem bx2 {w : World} {g : Nat} {t : TypeId} {a0 a1 : Value} (h : w.heap[g]? = some (.cells #[a0, a1] t (0, 0))) : w.cell? ⟨g, 0, none⟩ = some a0 ∧ w.cell? ⟨g, 1, none⟩ = some a1 ∧ w.frozen? ⟨g, 0, none⟩ = false ∧ w.frozen? ⟨g, 1, none⟩ = false := ⟨(blk_cell h 0).trans rfl, (blk_cell h 1).trans rfl, blk_frozen h 0, blk_frozen h 1⟩
theorem bx4 {w : World} {g : Nat} {t : TypeId} {a0 a1 a2 a3 : Value} (h : w.heap[g]? = some (.cells #[a0, a1, a2, a3] t (0, 0))) : w.cell? ⟨g, 0, none⟩ = some a0 ∧ w.cell? ⟨g, 1, none⟩ = some a1 ∧ w.cell? ⟨g, 2, none⟩ = some a2 ∧ w.cell? ⟨g, 3, none⟩ = some a3 ∧ w.frozen? ⟨g, 0, none⟩ = false ∧ w.frozen? ⟨g, 1, none⟩ = false ∧ w.frozen? ⟨g, 2, none⟩ = false ∧ w.frozen? ⟨g, 3, none⟩ = false := ⟨(blk_cell h 0).trans rfl, (blk_cell h 1).trans rfl, (blk_cell h 2).trans rfl, (blk_cell h 3).trans rfl, blk_frozen h 0, blk_frozen h 1, blk_frozen h 2, blk_frozen h 3⟩
end Go.Proofs.YtkdemainohfgfaaW.PrintWords
namespace Go.Proofs.YtkdemainohfgfaaW.PrintLast
open Go.Proofs.YtkdemainohfgfaaW.PrintWords (Aside0 bs_)
section
variable {P : Program} {ops : Array Oper} {Q : Exit → Act → World → Prop} {md : Region.Mode} {S : World → Prop} {ds : List Nat} {T : Bool × List (List Nat × List Nat)} {B : List Nat} {oi : Oper} {fuel : Nat} {l : Array Bool} {a : Act} {w : World}
end
/-! Words for shorter walks (wip/tools/squeeze.py) -/
section
variable {P : Program} {ops : Array Oper} {Q : Exit → Act → World → Prop} {md : Region.Mode} {S : World → Prop} {ds : List Nat} {T : Bool × List (List Nat × List Nat)} {B : List Nat} {oi : Oper} {fuel : Nat} {l : Array Bool} {a : Act} {w : World} {v : Value}
open Go.Proofs.YtkdemainohfgfaaW.PrintWords (pt_)
theorem pq_ (i N n m : Nat) {a' : Act} (hT : Aside0 (rtab md ops = T)) (h : wpAnyLast P md ops Q S ds fuel (bs_ n m) a' w) (hi : ops[i]? = some oi := by rfl) (hN : oi.dst = some N := by rfl) (hc : anyT T l.toList (bs_ n m).toList i = true := by kernel_rfl)
    (hy : Yields P ops oi v a := by exact Or.inl ⟨by rfl, by intro w'; go_simp; with_reducible rfl⟩) (ha : a.put (some N) v = a' := by simp only [Act.put, pt_]; rfl) (hQ : ∀ c a w, Q (.panic c) (a.put oi.dst v) w → Q (.panic c) a w := by exact fun _ _ _ h => h) : wpAnyLast P md ops Q S ds (fuel + 1) l a w :=
  pure_ (bs_ n m) hi hN (any_of hT.out hc) hQ hy ha h
theorem pr_ (i N n m : Nat) {a' : Act} (hT : Aside0 (rtab md ops = T)) (h : wpAnyLast P md ops Q S ds fuel (bs_ n m) a' w) (hi : ops[i]? = some oi := by rfl) (hN : oi.dst = some N := by rfl) (hc : anyT T l.toList (bs_ n m).toList i = true := by kernel_rfl)
    (hy : Yields P ops oi undef a := by exact Or.inr ⟨by rfl, rfl⟩) (ha : a.put (some N) undef = a' := by simp only [Act.put, pt_]; rfl) (hQ : ∀ c a w, Q (.panic c) (a.put oi.dst undef) w → Q (.panic c) a w := by exact fun _ _ _ h => h) : wpAnyLast P md ops Q S ds (fuel + 1) l a w :=
  pure_ (bs_ n m) hi hN (any_of hT.out hc) hQ hy ha h
theorem tq_ (i N n m : Nat) {a' : Act} (hT : Aside0 (rtab md ops = T)) (hB : Aside0 (waitsOk T.2 B = true)) (hS : S w) (h : wpAnyLast P md ops Q S ds fuel (bs_ n m) a' w) (hi : ops[i]? = some oi := by rfl) (hN : oi.dst = some N := by rfl) (hc : takeW T B ds l.toList (bs_ n m).toList i = true := by kernel_rfl)
    (hy : YieldsIf P ops S oi v a := by exact Or.inl ⟨by rfl, by intro w' hs_; (repeat (obtain ⟨_, hs_⟩ : _ ∧ _ := hs_)); go_simp; with_reducible rfl⟩) (ha : a.put (some N) v = a' := by simp only [Act.put, pt_]; rfl) (hQ : ∀ c a w, Q (.panic c) (a.put oi.dst v) w → Q (.panic c) a w := by exact fun _ _ _ h => h) : wpAnyLast P md ops Q S ds (fuel + 1) l a w :=
  take_ (bs_ n m) hi hN (take_ofW hT.out hB.out hc) hQ hy hS ha h
theorem gL_ {rest : List Oper} {f : FuncId} {fn : Func} {as : Array Operand} {ts : Array TypeId} (N : Option Tmp) (hf : P.funcs[f]? = some fn) (args : Array Value) (h : Calls P f args w fun e w' => ∃ v, e = .returned v ∧ wpList P ops Q rest (a.put N v) w')
    (hd : oi.dst = N := by rfl) (hg : oi.guard = none := by rfl) (hname : (fn.name == "runtime.NumGoroutine") = false := by kernel_rfl) (hb : fn.body.isSome = true := by rfl) (hop : oi.op = .call { callee := .value (.func f), args := as, argTypes := ts } := by rfl) (hargs : as.map a.eval = args := by (try simp only [List.map_toArray, List.map_cons, List.map_nil]); first | done | rfl | (simp only [List.length_drop, List.length_take]; rfl)) :
    wpList P ops Q (oi :: rest) a w := goesL_ N hd hg hf hname hb args hop hargs h
theorem gO_ {N : Option Tmp} {K : Act → World → Prop} {f : FuncId} {fn : Func} {as : Array Operand} {ts : Array TypeId} (hf : P.funcs[f]? = some fn) (args : Array Value) (h : Calls P f args w fun e w' => ∃ v, e = .returned v ∧ K (a.put N v) w')
    (hname : (fn.name == "runtime.NumGoroutine") = false := by kernel_rfl) (hb : fn.body.isSome = true := by rfl) (hw : Region.wanted oi (yielded ops a.tmps) = true := by rfl) (hN : oi.dst = N := by rfl) (hop : oi.op = .call { callee := .value (.func f), args := as, argTypes := ts } := by rfl) (hargs : as.map a.eval = args := by (try simp only [List.map_toArray, List.map_cons, List.map_nil]); first | done | rfl | (simp only [List.length_drop, List.length_take]; rfl)) :
    if Region.wanted oi (yielded ops a.tmps) = true then Oper.wp P oi a w K Q else K (a.put N undef) w := goes_ hf hname hb args hw hN hop hargs h
end
end Go.Proofs.YtkdemainohfgfaaW.PrintLast
