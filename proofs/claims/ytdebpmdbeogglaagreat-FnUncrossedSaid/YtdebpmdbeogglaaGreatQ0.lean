-- Written by a session's own program (wip/tools/myprint.py) over the kit's printer, out of the translation. Not trusted: Lean checks it.
import Derived.Test.YtdebpmdbeogglaaGreatProg
import Derived.Below
import Derived.Deep.Draws
import Derived.Deep.AppendLies
import Derived.Maps.AppendAt
import Derived.OwnWalk
import Derived.Laws.BytesArg
import Derived.Laws.MakeOwn
import Derived.Laws.OwnMore
import Derived.Deep.OwnRows
import Derived.Tactics
import Derived.Lib.ConvBytes
import Derived.Laws.Slices
import Derived.WalkKit
import Derived.KernelRfl
import Derived.RowKit3
import Derived.Deep.LoopGhost
import Derived.Deep.QuietTactic
import Derived.BigQuiet
import Derived.WideLaws
import Derived.Deep.DeepCutAuto
import Derived.Deep.CutBlock
import Derived.Deep.RegionHeld3
import Derived.Laws.Rows
import Derived.Lib.AppendStr
import Derived.ArgAppend
import Derived.Laws.IdiomCopy
import Derived.OrdersHeld
import Derived.Laws.BitsLemmas
import Derived.RowKit
import Derived.Lib.SliceRun
import Derived.Test.YtdebpmdbeogglaaGreatShelf
import Derived.Test.YtdebpmdbeogglaaGreatWWords
import Derived.Test.YtdebpmdbeogglaaGreatWLast
import Derived.Test.YtdebpmdbeogglaaGreatWTab
import Derived.Test.YtdebpmdbeogglaaGreatWFour
import Derived.Test.YtdebpmdbeogglaaGreatWQPut
import Derived.Test.YtdebpmdbeogglaaGreatWApart
import Derived.Test.YtdebpmdbeogglaaGreatWArr
import Derived.Test.YtdebpmdbeogglaaGreatWZeros
import Derived.Test.YtdebpmdbeogglaaGreatWFoot
import Derived.Test.YtdebpmdbeogglaaGreatWKept
import Derived.Test.YtdebpmdbeogglaaGreatWShare
import Derived.Test.YtdebpmdbeogglaaGreatWN
import Derived.Test.YtdebpmdbeogglaaGreatWFootNe
import Derived.Test.YtdebpmdbeogglaaGreatWAt
import Derived.Test.YtdebpmdbeogglaaGreatWEqStruct
import Derived.Test.YtdebpmdbeogglaaGreatWRepsOne
import Derived.Test.YtdebpmdbeogglaaGreatWInv
import Derived.Test.YtdebpmdbeogglaaGreatWInvWords
import Derived.Test.YtdebpmdbeogglaaGreatWGuard
import Derived.Test.YtdebpmdbeogglaaGreatWNEv
import Derived.Test.YtdebpmdbeogglaaGreatWMore
import Derived.Test.YtdebpmdbeogglaaGreatWUp
-- squeezed
-- renamed
-- squeezed4
namespace Go.Proofs.YtdebpmdbeogglaaGreat.Q
open Go.RowKit Go.Proofs.YtdebpmdbeogglaaGreatW.PrintWords Go.Proofs.YtdebpmdbeogglaaGreatW.PrintLast Go.Proofs.YtdebpmdbeogglaaGreatW.PrintMore
attribute [local go_sem] max2_int min2_int max_two min_two max_three min_three max_four min_four   -- for this text's walks alone
set_option linter.unusedVariables false
set_option linter.unusedSimpArgs false
theorem B_ : ∀ {p : Prop} (out : p), Aside0 p := @Aside0.mk
theorem C_ : ∀ {p : Prop} [inst : Decidable p], p → decide p = true := @decide_eq_true
theorem D_ : ∀ (w : World) (a : Addr) {u : Value} (h : w.cell? a = some u), a.block < w.heap.size := @World.block_lt_of_cell?
theorem E_ : ∀ {p : Prop} (h : p), p = True := @eq_true
theorem F_ : ∀ {α : Type _} {v v1 : α}, some v = some v1 → v = v1 := @Option.some.inj
theorem G_ : ∀ {c : Prop} {h : Decidable c} (hc : c) {α : Sort _} {t e : α}, (if c then t else e) = t := @if_pos
theorem H_ : ∀ {w W : World} (h : Below w.heap.size w W), w.heap.size ≤ W.heap.size := @below_size
theorem I_ : ∀ {c : Prop} {h : Decidable c} (hnc : ¬c) {α : Sort _} {t e : α}, (if c then t else e) = e := @if_neg
theorem J_ : ∀ {P : Program} {ops : Array Oper} {rest : List Oper} {o : Oper} {a : Act} {Q : Exit → Act → World → Prop} {W : World} {f : FuncId} {aS : Array Operand} {ts : Array TypeId} (_ho : o.op = Op.call { callee := Callee.value (Operand.func f), args := aS, argTypes := ts }) (h : wpList P ops Q (o :: rest) a W), wpList P ops Q (o :: rest) a W := @gate_callee
theorem K_ : ∀ {p : Prop} [inst : Decidable p], ¬p → decide p = false := @decide_eq_false
theorem N_ : ∀ (n : Nat), n ≤ n := @Nat.le_refl
theorem O_ : ∀ {α : Type} {d : Kd α} {e : Nat} {w : World} {base : Nat} {ok ok' : Nat → Prop} {v : Value} {xs : List α} (h : d.R e w base ok v xs) (hok : ∀ k : Nat, ok k → ok' k), d.R e w base ok' v xs := @Kd.R_mono
theorem Q_ : ∀ {w w' : World} (h : Drawn0 w w') (n : Nat), Drawn0 w (w'.drewN n) := @Drawn0.step
theorem R_ : ∀ (w : World), Drawn0 w w := @Drawn0.refl
theorem S_ : ∀ {α : Type} {d : Kd α} {e : Nat} {w : World} {base : Nat} {ok : Nat → Prop} {xs : List α} {A : Option Addr} {n c : Nat} (h : d.R e w base ok (Value.slice A n c) xs), n = xs.length ∧ n ≤ c ∧ d.C w A xs.length xs := @Kd.R_reads'
theorem U_ : ∀ {w : World} {A : Option Addr} {n : Nat} {k : IntKind} {xs : List Int} (h : (Kd.int k).C w A n xs) (i : Int) (h0 : 0 ≤ i) (h1 : i < (n : Int)), ∃ ad : Addr, A = some ad ∧ w.cell? (ad.add i.toNat) = some (Value.int k (rd xs i)) := @Kd.at_int
theorem V_ : ∀ {α : Type} {d : Kd α} {e : Nat} {w1 W : World} {ok : Nat → Prop} {u v : Value} {xs : List α} (h : d.S e w1 W.heap.size ok v xs) (hlt : ∀ k : Nat, u.ownBlock = some k → k < W.heap.size), d.S e w1 W.heap.size (fun k : Nat => ok k ∧ some k ≠ u.ownBlock) v xs := @Kd.S_new'
theorem X_ : ∀ {w : World} {g : Nat} {o : Obj} (h : w.heap[g]? = some o), w.drew.heap[g]? = some o := @blk_drew
theorem Y_ : ∀ {P : Program} {ops : Array Oper} {rest : List Oper} {o : Oper} {a : Act} {Q : Exit → Act → World → Prop} {W : World} {N : Tmp} (_hN : o.dst = some N) (h : wpList P ops Q (o :: rest) a W), wpList P ops Q (o :: rest) a W := @gate_dst
theorem Z_ : ∀ {w w1 w2 : World} {g : Nat} {row row1 : Option Nat} (h : KeepBut w w1 g row) (k : KeepBut w1 w2 g row1) (hr : row1 = row ∨ ∃ b : Nat, row1 = some b ∧ w.heap.size ≤ b), KeepBut w w2 g row := @KeepBut.trans
theorem A__ : ∀ (B : Nat) (w : World), Below B w w := @Below.refl
theorem C__ : ∀ {α : Type} {d : Kd α} {e : Nat} {w : World} {base : Nat} {ok : Nat → Prop} {xs : List α} {A : Option Addr} {n c : Nat} (h : d.S e w base ok (Value.slice A n c) xs), n = xs.length ∧ n ≤ c ∧ d.C w A xs.length xs := @Kd.S_reads'
theorem E__ : ∀ {α : Type} {d : Kd α} {e : Nat} {w : World} {base : Nat} {ok ok' : Nat → Prop} {v : Value} {xs : List α} (h : d.S e w base ok v xs) (hok : ∀ k : Nat, ok k → ok' k), d.S e w base ok' v xs := @Kd.S_mono
theorem F__ : ∀ (w : World) (n m : Nat), (w.drewN n).drewN m = w.drewN (n + m) := @World.drewN_drewN
theorem L_ {b : Bool} (h : ¬ b = true) : b = false := Bool.eq_false_iff.mpr h
theorem M_ {α β : Type _} {o : Option α} {f : α → Option β} {b : β} (h : o.bind f = some b) : ∃ a, o = some a ∧ f a = some b := Option.bind_eq_some_iff.mp h
theorem P_ {α : Type _} [BEq α] [LawfulBEq α] {a b : α} (h : a ≠ b) : (a == b) = false := beq_eq_false_iff_ne.mpr h
theorem T_ {α : Type _} [BEq α] [LawfulBEq α] {a b : α} (h : a = b) : (a != b) = false := bne_eq_false_iff_eq.mpr h
theorem B__ {α : Type _} [BEq α] [LawfulBEq α] {a b : α} (h : a ≠ b) : (a != b) = true := bne_iff_ne.mpr h
theorem D__ {α : Type _} [BEq α] [LawfulBEq α] {a b : α} (h : a = b) : (a == b) = true := beq_iff_eq.mpr h



def errW : Option Int → Value
  | none => .nilIface
  | some c => .iface 0 (.int .i64 c)
theorem errW_none : errW none = .nilIface := rfl
theorem errW_some (c : Int) : errW (some c) = .iface 0 (.int .i64 c) := rfl
theorem ew_ {α : Sort _} {a b : α} (h : a = b := by first | rfl | (simp [errW_none, errW_some] <;> rfl) | (simp [*, errW_none, errW_some] <;> rfl)) : a = b := h

theorem info3 : (Tryz.prog.info? 3).map (fun i => (i.zero, i.size, i.bytes)) = some (some (.int .i64 0), 1, 8) := by kernel_rfl
theorem info5 : (Tryz.prog.info? 5).map (fun i => (i.zero, i.size, i.bytes)) = some (some (.int .u8 0), 1, 1) := by kernel_rfl
theorem info43 : (Tryz.prog.info? 43).map (fun i => (i.zero, i.size, i.bytes)) = some (some (.agg #[(.slice none 0 0)]), 1, 24) := by kernel_rfl
-- the values' own types
def rd_L2 (xs : List (List Int)) (i : Int) : (List Int) := xs.getD i.toNat ([] : List Int)
theorem at_L2 {w : World} {A : Option Addr} {n : Nat} {xs : List (List Int)} (h : Kd.C (Kd.slice 3 (Kd.int .i64)) w A n xs) (i : Int) (h0 : 0 ≤ i) (h1 : i < n) : ∃ ad A0 c0, A = some ad ∧ w.cell? (ad.add i.toNat) = some (.slice A0 (rd_L2 xs i).length c0) ∧ (rd_L2 xs i).length ≤ c0 ∧ (Kd.int .i64).C w A0 (rd_L2 xs i).length (rd_L2 xs i) := by
  obtain ⟨ad, c, e, _, hK, hc0⟩ := Kd.C_get h ([] : List Int) i h0 h1
  have hc : ∀ j u, c[j]? = some u → w.cell? (ad.add (i.toNat * 1 + j)) = some u := hc0
  obtain ⟨A0, c0, rfl, l0, g0⟩ := hK
  exact ⟨ad, A0, c0, e, by have hq := hc 0 _ rfl; rwa [Nat.mul_one, Nat.add_zero] at hq, l0, g0⟩

/-! #### struct type 43 -/
structure S43 where
  f0 : (List Int)
def z43 : S43 := ⟨([] : List Int)⟩
def k43 : Kd S43 := Kd.iso (Kd.slice 3 (Kd.int .i64)) (fun x : S43 => x.f0)
theorem k43_open {w : World} {x : S43} {cs : List Value} (h : k43.K w x cs) : ∃ A0 c0, cs = [.slice A0 x.f0.length c0] ∧ x.f0.length ≤ c0 ∧ (Kd.int .i64).C w A0 x.f0.length x.f0 := by
  obtain ⟨A0, c0, rfl, l0, g0⟩ := h
  exact ⟨A0, c0, rfl, l0, g0⟩
theorem k43_openM {w : World} {base : Nat} {ok : Nat → Prop} {x : S43} {cs : List Value} (h : k43.M w base ok x cs) : ∃ v0, cs = [v0] ∧ (Kd.int .i64).R 3 w base ok v0 x.f0 := by
  obtain ⟨v0, rfl, g0⟩ := h
  exact ⟨v0, rfl, g0⟩
theorem k43_mk (w : World) (x : S43) {A0 : Option Addr} {c0 : Nat} (l0 : x.f0.length ≤ c0) (g0 : (Kd.int .i64).C w A0 x.f0.length x.f0) : k43.K w x [.slice A0 x.f0.length c0] := ⟨A0, c0, rfl, l0, g0⟩
theorem k43_mkM (w : World) (base : Nat) (ok : Nat → Prop) (x : S43) {v0 : Value} (g0 : (Kd.int .i64).R 3 w base ok v0 x.f0) : k43.M w base ok x [v0] := ⟨v0, rfl, g0⟩
def rd_T43 (xs : List S43) (i : Int) : S43 := xs.getD i.toNat z43
theorem at_T43 {w : World} {A : Option Addr} {n : Nat} {xs : List S43} (h : Kd.C k43 w A n xs) (i : Int) (h0 : 0 ≤ i) (h1 : i < n) : ∃ ad A0 c0, A = some ad ∧ w.cell? (ad.add i.toNat) = some (.slice A0 (rd_T43 xs i).f0.length c0) ∧ (rd_T43 xs i).f0.length ≤ c0 ∧ (Kd.int .i64).C w A0 (rd_T43 xs i).f0.length (rd_T43 xs i).f0 := by
  obtain ⟨ad, c, e, _, hK, hc0⟩ := Kd.C_get h z43 i h0 h1
  have hc : ∀ j u, c[j]? = some u → w.cell? (ad.add (i.toNat * 1 + j)) = some u := hc0
  obtain ⟨A0, c0, rfl, l0, g0⟩ := k43_open hK
  exact ⟨ad, A0, c0, e, by have hq := hc 0 _ rfl; rwa [Nat.mul_one, Nat.add_zero] at hq, l0, g0⟩

/-! #### struct type 25 -/
structure S25 where
  f0 : Int
  f1 : Int
  f2 : ByteArray
def z25 : S25 := ⟨(0 : Int), (0 : Int), (⟨#[]⟩ : ByteArray)⟩
def k25 : Kd S25 := Kd.iso (Kd.pair (Kd.int .i64) (Kd.pair (Kd.int .i64) Kd.string)) (fun x : S25 => (x.f0, x.f1, x.f2))
theorem k25_open {w : World} {x : S25} {cs : List Value} (h : k25.K w x cs) : cs = [.int .i64 x.f0, .int .i64 x.f1, .string x.f2] := by
  obtain ⟨_, _, rfl, rfl, ⟨_, _, rfl, rfl, rfl⟩⟩ := h
  exact rfl
theorem k25_openM {w : World} {base : Nat} {ok : Nat → Prop} {x : S25} {cs : List Value} (h : k25.M w base ok x cs) : cs = [.int .i64 x.f0, .int .i64 x.f1, .string x.f2] := by
  obtain ⟨_, _, rfl, rfl, ⟨_, _, rfl, rfl, rfl⟩⟩ := h
  exact rfl
theorem k25_mk (w : World) (x : S25)  : k25.K w x [.int .i64 x.f0, .int .i64 x.f1, .string x.f2] := ⟨[.int .i64 x.f0], [.int .i64 x.f1, .string x.f2], rfl, rfl, ⟨[.int .i64 x.f1], [.string x.f2], rfl, rfl, rfl⟩⟩
theorem k25_mkM (w : World) (base : Nat) (ok : Nat → Prop) (x : S25)  : k25.M w base ok x [.int .i64 x.f0, .int .i64 x.f1, .string x.f2] := ⟨[.int .i64 x.f0], [.int .i64 x.f1, .string x.f2], rfl, rfl, ⟨[.int .i64 x.f1], [.string x.f2], rfl, rfl, rfl⟩⟩
def rd_T25 (xs : List S25) (i : Int) : S25 := xs.getD i.toNat z25
theorem at_T25 {w : World} {A : Option Addr} {n : Nat} {xs : List S25} (h : Kd.C k25 w A n xs) (i : Int) (h0 : 0 ≤ i) (h1 : i < n) : ∃ ad , A = some ad ∧ w.cell? (ad.add (i.toNat * 3)) = some (.int .i64 (rd_T25 xs i).f0) ∧ w.cell? ⟨(ad.add (i.toNat * 3)).block, (ad.add (i.toNat * 3)).off + 1, none⟩ = some (.int .i64 (rd_T25 xs i).f1) ∧ w.cell? ⟨(ad.add (i.toNat * 3)).block, (ad.add (i.toNat * 3)).off + 2, none⟩ = some (.string (rd_T25 xs i).f2) := by
  obtain ⟨ad, c, e, _, hK, hc0⟩ := Kd.C_get h z25 i h0 h1
  have hc : ∀ j u, c[j]? = some u → w.cell? (ad.add (i.toNat * 3 + j)) = some u := hc0
  obtain rfl := k25_open hK
  exact ⟨ad, e, hc 0 _ rfl, by rw [← add_field _ _ 1 (by omega)]; exact hc 1 _ rfl, by rw [← add_field _ _ 2 (by omega)]; exact hc 2 _ rfl⟩

end Go.Proofs.YtdebpmdbeogglaaGreat.Q
