import Derived.KernelRfl
import Derived.Test.YtdebpmdbeogglaaGreatWWords
import Derived.Test.YtdebpmdbeogglaaGreatWApart
import Derived.Test.YtdebpmdbeogglaaGreatWN
import Derived.Test.YtdebpmdbeogglaaGreatWShare
import Derived.Test.YtdebpmdbeogglaaGreatWTab
namespace Go.Proofs.YtdebpmdbeogglaaGreatW.PrintWords
open Go.RowKit
def bs_ (n m : Nat) : Array Bool := ((List.range n).map m.testBit).toArray
theorem pt_ : (∀ (l : List Value) (i : Nat) (v : Value), l.toArray.setIfInBounds i v = (l.set i v).toArray) ∧ (∀ (x v : Value) (xs : List Value), (x :: xs).set 0 v = v :: xs) ∧ (∀ (x v : Value) (xs : List Value) (n : Nat), (x :: xs).set (n + 1) v = x :: xs.set n v) ∧ (∀ n : Int, IntKind.i64.wrap n = wrap64 n) ∧ (∀ n : Int, IntKind.i32.wrap n = wrap32 n) :=
 ⟨fun _ _ _ => by simp, fun _ _ _ => rfl, fun _ _ _ _ => rfl, fun n => by unfold wrap64; exact IntKind.wrap_i64 n, fun n => by unfold wrap32; exact IntKind.wrap_i32 n⟩
class Up (w w' : World) : Prop where
 up : Below w.heap.size w w'
instance Up.i0 (w : World) : Up w w := ⟨Below.refl _ _⟩
instance Up.i1 (w w' : World) (o : Obj) [h : Up w w'] : Up w (w'.alloc o) := ⟨below_alloc h.up o⟩
instance Up.i2 (w w' : World) (n : Nat) [h : Up w w'] : Up w (w'.drewN n) := ⟨pw_below_drewN h.up n⟩
instance Up.i3 (w w' : World) [h : Up w w'] : Up w w'.drew := ⟨below_drew h.up⟩
instance Up.i4 (w : World) (n : Nat) (p : Addr) (v : Value) : Up (w.setCell p v) ((w.drewN n).setCell p v) := ⟨show Below _ _ ((w.setCell p v).drewN n) from pw_below_drewN (Below.refl _ _) n⟩
section
variable {α : Type} {d : Kd α} {e base n : Nat} {A : Option Addr} {ok oki : Nat → Prop} {w w' : World} {v : Value} {xs : List α} {i : Int} {c : List Value}
theorem uR [u : Up w w'] (h : d.R e w base ok v xs) : d.R e w' base ok v xs := Kd.R_below h u.up
theorem uS [u : Up w w'] (h : Kd.S d e w base ok v xs) : Kd.S d e w' base ok v xs := Kd.S_below h u.up
theorem uC [u : Up w w'] (h : d.C w A n xs) : d.C w' A n xs := Kd.C_below h u.up
theorem grown_off {W w1 : World} {β : Type} {d2 : Kd β} {e2 base2 : Nat} {ok2 : Nat → Prop} {ys : List β} {ad : Addr} {e' m cp : Nat} {a : Addr} {z : Value} (hg : W.grownBy w1 v.ownBlock) (h : d2.R e2 W base2 ok2 v ys) (h2 : ∀ k, (Value.slice (some ad) m cp).ownBlock = some k → ∃ cells, W.heap[k]? = some (.cells cells e' (0, 0))) (hne : e2 ≠ e') (hc : W.cell? a = some z) (ha : a.block = ad.block) : w1.cell? a = some z := by
 obtain ⟨cells, hx⟩ := h2 ad.block rfl
 have h4 := hg.block a.block (World.block_lt_of_cell? W a hc) (by rw [ha]; exact Kd.R_ne h hx hne)
 simpa [World.cell?, h4] using hc
theorem uB {w0 : World} [u : Up w w'] (h : Below w0.heap.size w0 w) : Below w0.heap.size w0 w' := below_then h h.size u.up
end
theorem uK {w w' : World} {g : Nat} {o : Obj} [u : Up w w'] (h : w.heap[g]? = some o) : w'.heap[g]? = some o := blk_below h u.up
theorem od_ {p : Prop} [Decidable p] (h : decide p = true := by first | (with_reducible assumption) | assumption) : p := of_decide_eq_true h
theorem ev_ {α : Sort _} {a b : α} (h : a = b := by first | rfl | (simp; done) | (simp [*]; done)) : a = b := h
theorem kb_ {w w1 w' : World} {g : Nat} {o : Obj} [u : Up w w'] (h : Aside0 (w.heap[g]? = some o)) (hb : Below w'.heap.size w' w1) : Aside0 (w1.heap[g]? = some o) := ⟨blk_below (uK h.out) hb⟩
theorem hB_ {w0 w w' w2 : World} [u : Up w w'] (h : Aside0 (Below w0.heap.size w0 w)) (k : Below w'.heap.size w' w2) : Aside0 (Below w0.heap.size w0 w2) := ⟨below_step (uB h.out) k⟩
theorem nl_ {w w' : World} {g g' : Nat} {o : Obj} [u : Up w w'] (hg : g' = w'.heap.size) (h : Aside0 (w.heap[g]? = some o)) : Aside0 (g ≠ g') := ⟨hg ▸ Nat.ne_of_lt (blk_lt (uK (w' := w') h.out))⟩
theorem nr_ {w w' : World} {g g' : Nat} {o : Obj} [u : Up w w'] (hg : g' = w'.heap.size) (h : Aside0 (w.heap[g]? = some o)) : Aside0 (g' ≠ g) := ⟨hg ▸ Nat.ne_of_gt (blk_lt (uK (w' := w') h.out))⟩
theorem ge_ {w0 w w' : World} {g' : Nat} [u : Up w w'] (hg : g' = w'.heap.size) (h : Aside0 (Below w0.heap.size w0 w)) : Aside0 (w0.heap.size ≤ g') := ⟨hg ▸ below_size (uB (w' := w') h.out)⟩
theorem bc_ {w : World} {g : Nat} {t : TypeId} {cs : Array Value} (h : Aside0 (w.heap[g]? = some (.cells cs t (0, 0)))) (i : Nat) {v : Value} (e : cs[i]? = some v := by rfl) : w.cell? ⟨g, i, none⟩ = some v := (blk_cell h.out i).trans e
theorem be_ {P : Program} {ops : Array Oper} {rest : List Oper} {o : Oper} {a : Act} {Q : Exit → Act → World → Prop} {W : World} {N : Tmp} {cs : Array Value} {t : TypeId}
  (h : ∀ g, g = W.heap.size → ∀ w1, w1.heap[g]? = some (.cells cs t (0, 0)) → Below W.heap.size W w1 → wpList P ops Q rest (a.put o.dst (.pointer (some ⟨g, 0, none⟩))) w1) (hgd : o.guard = none := by rfl) (hd : o.dst = some N := by rfl)
  (hrun : (execOp a.eval o).run P W = .ok (.value (.pointer (some ⟨W.heap.size, 0, none⟩))) (W.alloc (.cells cs t (0, 0))) := by first | (go_simp; done) | (go_simp; rfl)) : wpList P ops Q (o :: rest) a W := box_event hgd hd hrun h
theorem zk_ {W : World} {g : Nat} {o : Obj} (h : W.heap[g]? = some o := by repeat (first | (with_reducible first | refine blk_drewN ?_ _ | refine blk_drew ?_ | refine blk_alloc ?_ _ | apply blk_put) | refine blk_far ?_ (Aside0.out (by assumption)) _ | exact Aside0.out (by assumption) | rfl)) : W.heap[g]? = some o := h
theorem hz_ {Q : Prop} (h : Q := by first | (rw [hy_]; with_reducible exact H) | (have H2_ := (Option.bind_some _ _).symm.trans H; rw [hy_]; with_reducible exact H2_) | (have H2_ := (Option.bind_some _ _).symm.trans H; with_reducible exact H2_) | with_reducible exact H | (rw [hy_]; exact H) | exact H) : Q := h
section
variable {α : Type} {d : Kd α} {e base n m c : Nat} {A : Option Addr} {ok : Nat → Prop} {w w' w1 : World} {u v : Value} {xs : List α}
theorem cu_ [i : Up w1 w'] (h : Aside0 (d.C w A n xs)) (hb : Aside0 (Below w.heap.size w w1)) : d.C w' A n xs := uC (w := w1) (Kd.C_below h.out hb.out)
theorem sr_ [i : Up w w'] (h : Aside0 (Kd.S d e w base ok (.slice A m c) xs)) : d.C w' A xs.length xs := uC (Kd.S_reads' h.out).2.2
theorem sb_ [i : Up w w'] (h : Aside0 (Kd.S d e w base ok v xs)) (hb : Below w'.heap.size w' w1) : Aside0 (Kd.S d e w1 base ok v xs) := ⟨Kd.S_below (uS h.out) hb⟩
theorem rb_ [i : Up w w'] (h : Aside0 (d.R e w base ok v xs)) (hb : Below w'.heap.size w' w1) : Aside0 (d.R e w1 base ok v xs) := ⟨Kd.R_below (uR h.out) hb⟩
theorem se_ [i : Up w w'] (h : Aside0 (Kd.S d e w base ok u xs)) (ho : ∀ k, v.ownBlock = some k → w'.heap.size ≤ k) (hb : Below w'.heap.size w' w1) : Aside0 (Kd.S d e w1 base (fun k => ok k ∧ some k ≠ v.ownBlock) u xs) := ⟨Kd.S_elder' (uS h.out) ho hb⟩
end
theorem ob_ {α β : Type} {o : Option α} {f : α → Option β} {b : β} (h : o.bind f = some b) : ∃ a, Aside0 (o = some a) ∧ f a = some b := let ⟨a, h1, h2⟩ := Option.bind_eq_some_iff.mp h; ⟨a, ⟨h1⟩, h2⟩
theorem hw_ {w W w2 : World} (k : Below W.heap.size W w2) (h : Below w.heap.size w W := by repeat (first | (with_reducible first | exact HB.out | apply below_alloc | apply pw_below_drewN | apply below_drew1 | refine below_set ?_ (Aside0.out (by assumption))) | exact HB.out)) : Aside0 (Below w.heap.size w w2) := ⟨below_step h k⟩
theorem bw_ {w W : World} (h : Below w.heap.size w W := by repeat (first | (with_reducible first | exact HB.out | apply below_alloc | apply pw_below_drewN | apply below_drew1 | refine below_set ?_ (Aside0.out (by assumption))) | exact HB.out)) : Below w.heap.size w W := h
theorem kw_ (w : World) {W : World} {g : Nat} {row : Option Nat} (h : KeepBut w W g row := by repeat (first | (with_reducible first | exact HK.out | apply KeepBut.set_ | apply keep_drewN | apply keep_drew | apply keep_alloc | refine keep_far ?_ (Aside0.out (by assumption)) _) | exact HK.out)) : KeepBut w W g row := h
theorem bx1 {w : World} {g : Nat} {t : TypeId} {a0 : Value} (h : w.heap[g]? = some (.cells #[a0] t (0, 0))) : w.cell? ⟨g, 0, none⟩ = some a0 ∧ w.frozen? ⟨g, 0, none⟩ = false := ⟨(blk_cell h 0).trans rfl, blk_frozen h 0⟩
theorem bx3 {w : World} {g : Nat} {t : TypeId} {a0 a1 a2 : Value} (h : w.heap[g]? = some (.cells #[a0, a1, a2] t (0, 0))) : w.cell? ⟨g, 0, none⟩ = some a0 ∧ w.cell? ⟨g, 1, none⟩ = some a1 ∧ w.cell? ⟨g, 2, none⟩ = some a2 ∧ w.frozen? ⟨g, 0, none⟩ = false ∧ w.frozen? ⟨g, 1, none⟩ = false ∧ w.frozen? ⟨g, 2, none⟩ = false := ⟨(blk_cell h 0).trans rfl, (blk_cell h 1).trans rfl, (blk_cell h 2).trans rfl, blk_frozen h 0, blk_frozen h 1, blk_frozen h 2⟩
end Go.Proofs.YtdebpmdbeogglaaGreatW.PrintWords
namespace Go.Proofs.YtdebpmdbeogglaaGreatW.PrintLast
open Go.Proofs.YtdebpmdbeogglaaGreatW.PrintWords (Aside0 bs_)
section
variable {P : Program} {ops : Array Oper} {Q : Exit → Act → World → Prop} {md : Region.Mode} {S : World → Prop} {ds : List Nat} {T : Bool × List (List Nat × List Nat)} {B : List Nat} {oi : Oper} {fuel : Nat} {l : Array Bool} {a : Act} {w : World}
theorem tk_ (i : Nat) (N : Tmp) (n m : Nat) (v : Value) (hT : Aside0 (rtab md ops = T)) (hB : Aside0 (waitsOk T.2 B = true)) (hi : ops[i]? = some oi) (hN : oi.dst = some N) (hc : takeW T B ds l.toList (bs_ n m).toList i = true)
  (hQ : ∀ c a w, Q (.panic c) (a.put oi.dst v) w → Q (.panic c) a w) (hy : YieldsIf P ops S oi v a) (hS : S w) (a' : Act) (ha : a.put (some N) v = a') (h : wpAnyLast P md ops Q S ds fuel (bs_ n m) a' w) : wpAnyLast P md ops Q S ds (fuel + 1) l a w :=
 take_ (bs_ n m) hi hN (take_ofW hT.out hB.out hc) hQ hy hS ha h
end
section
variable {P : Program} {ops : Array Oper} {Q : Exit → Act → World → Prop} {md : Region.Mode} {S : World → Prop} {ds : List Nat} {T : Bool × List (List Nat × List Nat)} {B : List Nat} {oi : Oper} {fuel : Nat} {l : Array Bool} {a : Act} {w : World} {v : Value}
open Go.Proofs.YtdebpmdbeogglaaGreatW.PrintWords (pt_)
theorem on_ (i N n m : Nat) (hT : Aside0 (rtab md ops = T)) (h : ∀ K : Act → World → Prop, Shut (∀ a' w', S w' → (S w' → wpAnyLast P md ops Q S ds fuel (bs_ n m) a' w') → K a' w') → if Region.wanted oi (yielded ops a.tmps) = true then Oper.wp P oi a w K Q else K (a.put (some N) undef) w) (hi : ops[i]? = some oi := by rfl) (hN : oi.dst = some N := by rfl) (hc : (readyT T.2 l.toList == [i] && l.toList.set i true == (bs_ n m).toList) = true := by kernel_rfl) (hd : i ∉ ds := by decide) : wpAnyLast P md ops Q S ds (fuel + 1) l a w :=
 one_ (bs_ n m) hi hN (one_of hT.out hc) hd h
theorem pq_ (i N n m : Nat) {a' : Act} (hT : Aside0 (rtab md ops = T)) (h : wpAnyLast P md ops Q S ds fuel (bs_ n m) a' w) (hi : ops[i]? = some oi := by rfl) (hN : oi.dst = some N := by rfl) (hc : anyT T l.toList (bs_ n m).toList i = true := by kernel_rfl)
  (hy : Yields P ops oi v a := by exact Or.inl ⟨by rfl, by intro w'; go_simp; with_reducible rfl⟩) (ha : a.put (some N) v = a' := by simp only [Act.put, pt_]; rfl) (hQ : ∀ c a w, Q (.panic c) (a.put oi.dst v) w → Q (.panic c) a w := by exact fun _ _ _ h => h) : wpAnyLast P md ops Q S ds (fuel + 1) l a w :=
 pure_ (bs_ n m) hi hN (any_of hT.out hc) hQ hy ha h
theorem pr_ (i N n m : Nat) {a' : Act} (hT : Aside0 (rtab md ops = T)) (h : wpAnyLast P md ops Q S ds fuel (bs_ n m) a' w) (hi : ops[i]? = some oi := by rfl) (hN : oi.dst = some N := by rfl) (hc : anyT T l.toList (bs_ n m).toList i = true := by kernel_rfl)
  (hy : Yields P ops oi undef a := by exact Or.inr ⟨by rfl, rfl⟩) (ha : a.put (some N) undef = a' := by simp only [Act.put, pt_]; rfl) (hQ : ∀ c a w, Q (.panic c) (a.put oi.dst undef) w → Q (.panic c) a w := by exact fun _ _ _ h => h) : wpAnyLast P md ops Q S ds (fuel + 1) l a w :=
 pure_ (bs_ n m) hi hN (any_of hT.out hc) hQ hy ha h
theorem tq_ (i N n m : Nat) {a' : Act} (hT : Aside0 (rtab md ops = T)) (hB : Aside0 (waitsOk T.2 B = true)) (hS : S w) (h : wpAnyLast P md ops Q S ds fuel (bs_ n m) a' w) (hi : ops[i]? = some oi := by rfl) (hN : oi.dst = some N := by rfl) (hc : takeW T B ds l.toList (bs_ n m).toList i = true := by kernel_rfl)
  (hy : YieldsIf P ops S oi v a := by exact Or.inl ⟨by rfl, by intro w' hs_; (repeat (obtain ⟨_, hs_⟩ : _ ∧ _ := hs_)); go_simp; with_reducible rfl⟩) (ha : a.put (some N) v = a' := by simp only [Act.put, pt_]; rfl) (hQ : ∀ c a w, Q (.panic c) (a.put oi.dst v) w → Q (.panic c) a w := by exact fun _ _ _ h => h) : wpAnyLast P md ops Q S ds (fuel + 1) l a w :=
 take_ (bs_ n m) hi hN (take_ofW hT.out hB.out hc) hQ hy hS ha h
theorem gL_ {rest : List Oper} {f : FuncId} {fn : Func} {as : Array Operand} {ts : Array TypeId} (N : Option Tmp) (hf : P.funcs[f]? = some fn) (args : Array Value) (h : Calls P f args w fun e w' => ∃ v, e = .returned v ∧ wpList P ops Q rest (a.put N v) w')
  (hd : oi.dst = N := by rfl) (hg : oi.guard = none := by rfl) (hname : (fn.name == "runtime.NumGoroutine") = false := by kernel_rfl) (hb : fn.body.isSome = true := by rfl) (hop : oi.op = .call { callee := .value (.func f), args := as, argTypes := ts } := by rfl) (hargs : as.map a.eval = args := by (try simp only [List.map_toArray, List.map_cons, List.map_nil]); first | done | rfl | (simp only [List.length_drop, List.length_take]; rfl)) :
  wpList P ops Q (oi :: rest) a w := goesL_ N hd hg hf hname hb args hop hargs h
theorem gO_ {N : Option Tmp} {K : Act → World → Prop} {f : FuncId} {fn : Func} {as : Array Operand} {ts : Array TypeId} (hf : P.funcs[f]? = some fn) (args : Array Value) (h : Calls P f args w fun e w' => ∃ v, e = .returned v ∧ K (a.put N v) w')
  (hname : (fn.name == "runtime.NumGoroutine") = false := by kernel_rfl) (hb : fn.body.isSome = true := by rfl) (hw : Region.wanted oi (yielded ops a.tmps) = true := by rfl) (hN : oi.dst = N := by rfl) (hop : oi.op = .call { callee := .value (.func f), args := as, argTypes := ts } := by rfl) (hargs : as.map a.eval = args := by (try simp only [List.map_toArray, List.map_cons, List.map_nil]); first | done | rfl | (simp only [List.length_drop, List.length_take]; rfl)) :
  if Region.wanted oi (yielded ops a.tmps) = true then Oper.wp P oi a w K Q else K (a.put N undef) w := goes_ hf hname hb args hw hN hop hargs h
end
end Go.Proofs.YtdebpmdbeogglaaGreatW.PrintLast
