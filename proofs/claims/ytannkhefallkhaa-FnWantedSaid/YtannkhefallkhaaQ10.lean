-- Written by a session's own program (wip/tools/myprint.py) over the kit's printer, out of the translation. Not trusted: Lean checks it.
import Derived.Test.YtannkhefallkhaaQ0
import Derived.Test.YtannkhefallkhaaQ7
import Derived.Test.YtannkhefallkhaaQ9
namespace Go.Proofs.Ytannkhefallkhaa.Q
open Go.RowKit Go.Proofs.YtannkhefallkhaaW.PrintWords Go.Proofs.YtannkhefallkhaaW.PrintLast Go.Proofs.YtannkhefallkhaaW.PrintMore
attribute [local go_sem] max2_int min2_int max_two min_two max_three min_three max_four min_four   -- for this text's walks alone
set_option linter.unusedVariables false
set_option linter.unusedSimpArgs false

/-! ### Rows of whole numbers of the call's own that the library's sort has turned -/
theorem R_setCells (g n cap base e : Nat) (ok : Nat → Prop) (w0 : World) (hge : w0.heap.size ≤ g) : ∀ (vs : List Int) (i : Nat) (W : World) (xs : List Int), i + vs.length ≤ xs.length → Kd.R (Kd.int .i64) e W base ok (.slice (some ⟨g, 0, none⟩) n cap) xs → Below w0.heap.size w0 W →
  Kd.R (Kd.int .i64) e (W.setCells g i (vs.map (Value.int .i64))) base ok (.slice (some ⟨g, 0, none⟩) n cap) (xs.take i ++ vs ++ xs.drop (i + vs.length)) ∧ Below w0.heap.size w0 (W.setCells g i (vs.map (Value.int .i64))) ∧ (∀ k, k ≠ g → (W.setCells g i (vs.map (Value.int .i64))).heap[k]? = W.heap[k]?) ∧ (W.setCells g i (vs.map (Value.int .i64))).heap.size = W.heap.size
 | [], i, W, xs, _, h, hb => ⟨by rw [List.length_nil, Nat.add_zero, List.append_nil, List.take_append_drop]; exact h, hb, fun _ _ => rfl, rfl⟩
 | v :: vs, i, W, xs, hl, h, hb => by
  have h1 := Kd.R_putn h (i : Int) v
  rw [Int.toNat_natCast] at h1
  obtain ⟨h2, h3, h4, h5⟩ := R_setCells g n cap base e ok w0 hge vs (i + 1) _ _ (by simp at hl ⊢; omega) h1 (below_set hb hge)
  refine ⟨?_, h3, fun k hk => (h4 k hk).trans (Below.heap_setCell _ _ _ _ hk), h5.trans (by simp [World.setCell])⟩
  have e : (xs.set i v).take (i + 1) ++ vs ++ (xs.set i v).drop (i + 1 + vs.length) = xs.take i ++ (v :: vs) ++ xs.drop (i + (v :: vs).length) := by
   have hi : i < xs.length := by simp at hl; omega
   rw [List.take_succ_eq_append_getElem (by simpa using hi), List.drop_set_of_lt (by omega), List.take_set_of_le (Nat.le_refl i)]
   simp [show i + 1 + vs.length = i + (vs.length + 1) by omega]
  rw [← e]
  exact h2
theorem R_putRow {g n cap base e q : Nat} {ok : Nat → Prop} {W : World} {xs ys : List Int} {os : Array Obj} (w0 : World) (hge : w0.heap.size ≤ g) (hl : ys.length = xs.length) (h : Kd.R (Kd.int .i64) e W base ok (.slice (some ⟨g, 0, none⟩) n cap) xs) (hb : Below w0.heap.size w0 W) :
  Kd.R (Kd.int .i64) e (Go.Sort.grow (Go.Sort.putRow (Value.int .i64) (Go.Sort.ahead W q) g 0 ys.toArray) os) base ok (.slice (some ⟨g, 0, none⟩) n cap) ys ∧ Below w0.heap.size w0 (Go.Sort.grow (Go.Sort.putRow (Value.int .i64) (Go.Sort.ahead W q) g 0 ys.toArray) os) ∧ (∀ k, k < W.heap.size → k ≠ g → (Go.Sort.grow (Go.Sort.putRow (Value.int .i64) (Go.Sort.ahead W q) g 0 ys.toArray) os).heap[k]? = W.heap[k]?) ∧ W.heap.size ≤ (Go.Sort.grow (Go.Sort.putRow (Value.int .i64) (Go.Sort.ahead W q) g 0 ys.toArray) os).heap.size := by
 have hn := (Kd.R_reads' h).1
 have hH : Go.Sort.Holds (Value.int .i64) W g 0 xs.toArray := by
  intro j hj
  have hj' : j < xs.length := by simpa using hj
  obtain ⟨h1, h2⟩ := Kd.R_celln (0 : Int) h (j : Int) (by omega) (by omega)
  rw [Int.toNat_natCast] at h1 h2
  refine ⟨?_, by rw [Nat.zero_add]; exact h2⟩
  rw [Nat.zero_add, h1]
  congr 2
  rw [getElem!_pos xs.toArray j hj]
  unfold rdOf
  rw [Int.toNat_natCast, List.getD_eq_getElem?_getD, List.getElem?_eq_getElem hj']
  simp
 have hA : Go.Sort.putRow (Value.int .i64) (Go.Sort.ahead W q) g 0 xs.toArray = Go.Sort.ahead W q := Go.Sort.putRow_self (Value.int .i64) _ g 0 xs.toArray (Go.Sort.holds_ahead (Value.int .i64) W q g 0 xs.toArray hH)
 have hlay : Lib.lay xs.toArray 0 ys = ys.toArray := by
  apply Array.ext_getElem?
  intro j
  rw [Lib.lay_get? _ _ _ _ (by simp [hl])]
  by_cases c : j < ys.length
  ·rw [if_pos (by omega), Nat.sub_zero]; simp
  ·rw [if_neg (by omega), Array.getElem?_eq_none (by simp; omega), Array.getElem?_eq_none (by simp; omega)]
 have hS := Lib.putRow_setCells (Value.int .i64) (Go.Sort.ahead W q) g 0 ys xs.toArray 0 (by simp [hl])
 rw [hA, hlay, Nat.add_zero] at hS
 rw [← hS]
 have hRa : Kd.R (Kd.int .i64) e (Go.Sort.ahead W q) base ok (.slice (some ⟨g, 0, none⟩) n cap) xs := Kd.R_step h (fun _ _ _ => rfl)
 obtain ⟨h1, h2, h3, h4⟩ := R_setCells g n cap base e ok w0 hge ys 0 (Go.Sort.ahead W q) xs (by omega) hRa (hb.trans ⟨rfl, rfl, rfl, Nat.le_refl _, fun _ _ => rfl⟩)
 have e1 : xs.take 0 ++ ys ++ xs.drop (0 + ys.length) = ys := by rw [List.drop_of_length_le (by omega)]; simp
 rw [e1] at h1
 have h4' : ((Go.Sort.ahead W q).setCells g 0 (ys.map (Value.int .i64))).heap.size = W.heap.size := h4
 refine ⟨Kd.R_step h1 (fun k _ hk => Go.Sort.heap_grow_old _ os hk), h2.trans ⟨rfl, rfl, rfl, by simp, fun k hk => Go.Sort.heap_grow_old _ os (by have := h2.size; omega)⟩, fun k hk hne => (Go.Sort.heap_grow_old _ os (by omega)).trans (h3 k hne), by rw [Go.Sort.size_grow]; omega⟩
theorem R_holds {g n cap base e : Nat} {ok : Nat → Prop} {W : World} {xs : List Int} (h : Kd.R (Kd.int .i64) e W base ok (.slice (some ⟨g, 0, none⟩) n cap) xs) : Go.Sort.Holds (Value.int .i64) W g 0 xs.toArray := by
 have hn := (Kd.R_reads' h).1
 intro j hj
 have hj' : j < xs.length := by simpa using hj
 obtain ⟨h1, h2⟩ := Kd.R_celln (0 : Int) h (j : Int) (by omega) (by omega)
 rw [Int.toNat_natCast] at h1 h2
 refine ⟨?_, by rw [Nat.zero_add]; exact h2⟩
 rw [Nat.zero_add, h1]
 congr 2
 rw [getElem!_pos xs.toArray j hj]
 unfold rdOf
 rw [Int.toNat_natCast, List.getD_eq_getElem?_getD, List.getElem?_eq_getElem hj']
 simp

/-! ### slices.SortStableFunc over whole numbers, fewer than 20 of them: the library's insertion sort -/
def byKeyQ (key : Int → Int) (x y : Int) : Bool := decide (key y < key x)
/-- Sorted: greater keys first. -/
def stabQ (key : Int → Int) (l : List Int) : List Int := (Go.Sort.insertionSort (byKeyQ key) l.toArray 0 l.length).toList
theorem insInnerQ_size (lt : Int → Int → Bool) (a : Nat) : ∀ (j : Nat) (d : Array Int), (Go.Sort.insInner lt a j d).size = d.size
 | 0, d => rfl
 | j + 1, d => by
  unfold Go.Sort.insInner
  split
  ·rw [insInnerQ_size lt a j]; simp [Go.Sort.swp]
  ·rfl
theorem insOuterQ_size (lt : Int → Int → Bool) (a b : Nat) : ∀ (n i : Nat) (d : Array Int), b - i = n → (Go.Sort.insOuter lt a b i d).size = d.size
 | 0, i, d, h => by rw [Go.Sort.insOuter, if_neg (by omega)]
 | n + 1, i, d, h => by rw [Go.Sort.insOuter, if_pos (by omega), insOuterQ_size lt a b n (i + 1) _ (by omega), insInnerQ_size]
theorem swp_allQ (P : Int → Prop) (d : Array Int) (i j : Nat) (hi : i < d.size) (hj : j < d.size) (h : ∀ p, p < d.size → P d[p]!) : ∀ p, p < d.size → P (Go.Sort.swp d i j)[p]! := by
 intro p hp
 unfold Go.Sort.swp
 rw [getElem!_pos _ p (by simpa using hp), Array.getElem_setIfInBounds (by simpa using hp), Array.getElem_setIfInBounds hp]
 ·split
  ·exact h i hi
  ·split
   ·exact h j hj
   ·have := h p hp; rwa [getElem!_pos d p hp] at this
theorem insInner_allQ (P : Int → Prop) (lt : Int → Int → Bool) (a : Nat) : ∀ (j : Nat) (d : Array Int), j < d.size → (∀ p, p < d.size → P d[p]!) → ∀ p, p < d.size → P (Go.Sort.insInner lt a j d)[p]!
 | 0, d, _, h => h
 | j + 1, d, hs, h => by
  unfold Go.Sort.insInner
  split
  ·intro p hp
   exact insInner_allQ P lt a j (Go.Sort.swp d (j + 1) j) (by simp [Go.Sort.swp]; omega) (fun q hq => swp_allQ P d (j + 1) j hs (by omega) h q (by simpa [Go.Sort.swp] using hq)) p (by simpa [Go.Sort.swp] using hp)
  ·exact h
theorem insOuter_allQ (P : Int → Prop) (lt : Int → Int → Bool) (a b : Nat) : ∀ (n i : Nat) (d : Array Int), b - i = n → b ≤ d.size → (∀ p, p < d.size → P d[p]!) → ∀ p, p < d.size → P (Go.Sort.insOuter lt a b i d)[p]!
 | 0, i, d, hn, hb, h => by rw [Go.Sort.insOuter, if_neg (by omega)]; exact h
 | n + 1, i, d, hn, hb, h => by
  rw [Go.Sort.insOuter, if_pos (by omega)]
  intro p hp
  exact insOuter_allQ P lt a b n (i + 1) _ (by omega) (by rw [insInnerQ_size]; exact hb) (fun q hq => insInner_allQ P lt a i d (by omega) h q (by rwa [insInnerQ_size] at hq)) p (by rw [insInnerQ_size]; exact hp)
theorem putRow_encQ (enc : Int → Value) (w : World) (blk : Nat) (d : Array Int) (h : ∀ p, p < d.size → enc d[p]! = .int .i64 d[p]!) : Go.Sort.putRow enc w blk 0 d = Go.Sort.putRow (Value.int .i64) w blk 0 d := by
 unfold Go.Sort.putRow
 congr 1
 funext c
 unfold Go.Sort.putCells
 congr 1
 funext k x
 split
 ·rename_i hk
  exact h (k - 0) (by omega)
 ·rfl
set_option maxHeartbeats 8000000 in
set_option maxRecDepth 100000 in
theorem insertionSort_emptyQ (A : Option Addr) (c : Nat) (fv : Value) (w : World) : Calls Try.prog 76 #[.slice A 0 c, .int .i64 0, .int .i64 0, fv] w fun e w' => e = .returned (.tuple #[]) ∧ w' = w := by
 go_enter Try.func76, Try.ntmps76
 go_wp2
 go_loopg [8] 0 (fun _ v8 w' => v8 = .int .i64 1 ∧ w' = w)
 case atStart => exact ⟨by go_num, rfl⟩
 case round =>
  obtain ⟨rfl, rfl⟩ := hrel
  go_wp2
  go_end0
  exact ⟨rfl, rfl⟩
set_option maxHeartbeats 8000000 in
set_option maxRecDepth 100000 in
theorem stableCmpQ (A : Option Addr) (n c : Nat) (fv : Value) (w : World) (hn : n < 20) (Q : World → Prop) (hI : Calls Try.prog 76 #[.slice A n c, .int .i64 0, .int .i64 n, fv] w fun e w' => e = .returned (.tuple #[]) ∧ Q w') :
  Calls Try.prog 62 #[.slice A n c, .int .i64 n, fv] w fun e w' => e = .returned (.tuple #[]) ∧ Q w' := by
 have HI := Aside0.mk hI
 clear hI
 have h1 : ¬ (20 : Int) ≤ (n : Int) := by omega
 have h2 : ¬ (20 : Int) < (n : Int) := by omega
 go_enter Try.func62, Try.ntmps62
 go_wp2
 go_loopg [7, 8] 0 (fun _ v7 v8 w' => v7 = .int .i64 0 ∧ v8 = .int .i64 20 ∧ w' = w)
 case atStart => exact ⟨rfl, rfl, rfl⟩
 case round =>
  obtain ⟨rfl, rfl, rfl⟩ := hrel
  go_wp2_with (go_at_call 76; refine HI.out.mono ?_; rintro e w2 ⟨rfl, hq⟩; have HQ := Aside0.mk hq; clear hq)
  go_loopg [6, 7, 8] 0 (fun _ v6 v7 v8 w' => v6 = .int .i64 20 ∧ v7 = .int .i64 0 ∧ v8 = .int .i64 20 ∧ w' = w2)
  case atStart => exact ⟨rfl, rfl, rfl, rfl⟩
  case round =>
   obtain ⟨rfl, rfl, rfl, rfl⟩ := hrel
   go_wp2
   go_end0
   exact ⟨rfl, HQ.out⟩
set_option maxHeartbeats 8000000 in
set_option maxRecDepth 100000 in
theorem stableFuncQ (A : Option Addr) (n c : Nat) (fv : Value) (w : World) (hn : n < 20) (Q : World → Prop) (hI : Calls Try.prog 76 #[.slice A n c, .int .i64 0, .int .i64 n, fv] w fun e w' => e = .returned (.tuple #[]) ∧ Q w') :
  Calls Try.prog 50 #[.slice A n c, fv] w fun e w' => e = .returned (.tuple #[]) ∧ Q w' := by
 have HS := Aside0.mk (stableCmpQ A n c fv w hn Q hI)
 clear hI
 go_enter Try.func50, Try.ntmps50
 go_wp2_with (go_at_call 62; refine HS.out.mono ?_; rintro e w2 ⟨rfl, hq⟩; have HQ := Aside0.mk hq; clear hq)
 go_end0
 exact ⟨rfl, HQ.out⟩
theorem putRow_heapQ (enc : Int → Value) (w : World) (g : Nat) (d : Array Int) (k : Nat) (hk : k ≠ g) : (Go.Sort.putRow enc w g 0 d).heap[k]? = w.heap[k]? := by
 unfold Go.Sort.putRow Go.Sort.mapBlock
 simp only [Array.getElem?_modify]
 rw [if_neg (fun e => hk e.symm)]
theorem putRow_sizeQ (enc : Int → Value) (w : World) (g : Nat) (d : Array Int) : (Go.Sort.putRow enc w g 0 d).heap.size = w.heap.size := by
 unfold Go.Sort.putRow Go.Sort.mapBlock
 simp
theorem sortWorld_heapQ (enc : Int → Value) (w : World) (g m : Nat) (dk : Array Int) (os : Array Obj) : ∀ k, k < w.heap.size → k ≠ g → (sortWorld enc w g 0 m dk os).heap[k]? = w.heap[k]? := fun k hk hne =>
 (Go.Sort.heap_grow_old _ os (by rw [putRow_sizeQ]; exact hk)).trans (putRow_heapQ enc (Go.Sort.ahead w m) g dk k hne)
theorem sortWorld_sizeQ (enc : Int → Value) (w : World) (g m : Nat) (dk : Array Int) (os : Array Obj) : w.heap.size ≤ (sortWorld enc w g 0 m dk os).heap.size := by
 unfold sortWorld
 rw [Go.Sort.size_grow, putRow_sizeQ]
 exact Nat.le_add_right _ _

/-! ### SortStableFunc with DealOf's literal: the greatest rests first -/
def clampQ (n : Nat) (x : Int) : Int := if 0 ≤ x ∧ x < (n : Int) then x else 0
theorem clampQ_range {n : Nat} (hn : 0 < n) (x : Int) : 0 ≤ clampQ n x ∧ clampQ n x < (n : Int) := by
 unfold clampQ
 split
 ·assumption
 ·omega
/-- The rest of a share. -/
def restQ (r : Int) (want : List Int) (d : Int) (x : Int) : Int := Int.tmod (wrap64 (r * rd want x)) d
def hof_DealOf.f (l0 : List Int) (r : Int) (want : List Int) (d : Int) : Option (List Int) :=
 if (∀ x ∈ l0, 0 ≤ x ∧ x < (want.length : Int)) ∧ (0 < l0.length → 0 < d ∧ d ≤ 4611686018427387904) ∧ l0.length < 20 then some (stabQ (fun x => restQ r want d (clampQ want.length x)) l0) else none
theorem restQ_bound (r : Int) (want : List Int) (d : Int) (hd : 0 < d) (x : Int) : -d < restQ r want d x ∧ restQ r want d x < d := by
 unfold restQ
 generalize wrap64 (r * rd want x) = a
 rcases Int.le_total 0 a with h | h
 ·have h1 := Int.tmod_nonneg d h
  have h2 := Int.tmod_lt_of_pos a hd
  omega
 ·have h1 := Int.tmod_nonneg d (show 0 ≤ -a by omega)
  have h2 := Int.tmod_lt_of_pos (-a) hd
  rw [Int.neg_tmod] at h1 h2
  omega
set_option maxHeartbeats 8000000 in
set_option maxRecDepth 100000 in
theorem dealOf_cmpQ (r : Int) (A2 : Option Addr) (c2 : Nat) (want : List Int) (d : Int) (B1 B2 B3 : Nat) (W : World) (x y : Int) (hx0 : 0 ≤ x) (hx1 : x < (want.length : Int)) (hy0 : 0 ≤ y) (hy1 : y < (want.length : Int)) (hd : 0 < d)
  (h1 : W.cell? ⟨B1, 0, none⟩ = some (.int .i64 r)) (h2 : W.cell? ⟨B2, 0, none⟩ = some (.slice A2 want.length c2)) (h3 : W.cell? ⟨B3, 0, none⟩ = some (.int .i64 d)) (hr : Kd.C (Kd.int .i64) W A2 want.length want) :
  Calls Try.prog 51 #[.int .i64 x, .int .i64 y, .pointer (some ⟨B1, 0, none⟩), .pointer (some ⟨B2, 0, none⟩), .pointer (some ⟨B3, 0, none⟩)] W fun e w' => e = .returned (.int .i64 (wrap64 (restQ r want d y - restQ r want d x))) ∧ ∃ q, w' = W.drewN q := by
 obtain ⟨ad, ead, cx⟩ := Kd.at_int hr x hx0 hx1
 obtain ⟨ad2, ead2, cy⟩ := Kd.at_int hr y hy0 hy1
 cases ead
 cases ead2
 unfold restQ
 generalize rd want x = u at cx ⊢
 generalize rd want y = v at cy ⊢
 have hdz : ¬ d = 0 := by omega
 clear hr
 go_enter Try.func51, Try.ntmps51
 go_wp2
 go_quiet (fail)
 go_wp2
 go_ret
 exact ⟨rfl, nq, rfl⟩
set_option maxHeartbeats 8000000 in
set_option maxRecDepth 100000 in
theorem hof_DealOf.calls (P0_ : Nat → Prop) (u9000_ : Value) (l0 : List Int) (r : Int) (A2 : Option Addr) (c2 : Nat) (want : List Int) (d : Int) (B1 B2 B3 : Nat) (l' : List Int) (w0 w : World) (hB : Below w0.heap.size w0 w) (ho0 : Kd.R (Kd.int .i64) 3 w w0.heap.size P0_ u9000_ l0)
  (hr2 : ∀ W_, Kept w W_ (fun k_ => P0_ k_) → Kd.C (Kd.int .i64) W_ A2 want.length want) (hc2 : want.length ≤ c2)
  (hb1 : w.heap[B1]? = some (.cells #[.int .i64 r] 3 (0, 0))) (hn1 : some B1 ≠ u9000_.ownBlock) (hb2 : w.heap[B2]? = some (.cells #[.slice A2 want.length c2] 24 (0, 0))) (hn2 : some B2 ≠ u9000_.ownBlock) (hb3 : w.heap[B3]? = some (.cells #[.int .i64 d] 3 (0, 0))) (hn3 : some B3 ≠ u9000_.ownBlock)
  (h : hof_DealOf.f l0 r want d = some l') :
  Calls Try.prog 50 #[u9000_, .func (.func 51) #[] #[.pointer (some ⟨B1, 0, none⟩), .pointer (some ⟨B2, 0, none⟩), .pointer (some ⟨B3, 0, none⟩)]] w fun e w' => e = .returned (.tuple #[]) ∧ Kd.R (Kd.int .i64) 3 w' w0.heap.size (fun k_ => (P0_ k_ ∨ w.heap.size ≤ k_)) u9000_ l' ∧ Below w0.heap.size w0 w' ∧ Kept w w' (fun k_ => P0_ k_) := by
 have eg : ∀ args w, (callFunc 51 args).run Try.prog w = .ok (.enter 51 args) w := entersOf Try.func51 (by kernel_rfl) rfl
 unfold hof_DealOf.f at h
 by_cases hc : (∀ x ∈ l0, 0 ≤ x ∧ x < (want.length : Int)) ∧ (0 < l0.length → 0 < d ∧ d ≤ 4611686018427387904) ∧ l0.length < 20
 ·rw [if_pos hc] at h
  obtain rfl := Option.some.inj h
  obtain ⟨hin, hdd, h20⟩ := hc
  obtain ⟨A, c, rfl⟩ := Kd.R_slice ho0
  rcases Nat.eq_zero_or_pos l0.length with hz | hp
  ·obtain rfl := List.eq_nil_of_length_eq_zero hz
   refine (stableFuncQ A 0 c _ w (by omega) (fun w' => w' = w) (insertionSort_emptyQ A c _ w)).mono ?_
   rintro e w' ⟨rfl, rfl⟩
   have e0 : stabQ (fun x => restQ r want d (clampQ want.length x)) [] = [] := by
    apply List.eq_nil_of_length_eq_zero
    unfold stabQ Go.Sort.insertionSort
    rw [Array.length_toList, insOuterQ_size _ _ _ _ _ _ rfl]
    rfl
   exact ⟨rfl, by rw [e0]; exact Kd.R_mono ho0 (fun k hk => .inl hk), hB, Kept.refl _ _⟩
  ·obtain ⟨hd, hd2⟩ := hdd hp
   have hwn : 0 < want.length := by
    match l0, hp with
    | x :: _, _ => have := hin x List.mem_cons_self; omega
   obtain ⟨g, cap, e, hge, hlt, _⟩ := Kd.R_form ho0 hp
   cases e
   have hPg : P0_ g := ho0.1 g rfl
   have hg1 : B1 ≠ g := fun e => hn1 (by simp [Value.ownBlock, e])
   have hg2 : B2 ≠ g := fun e => hn2 (by simp [Value.ownBlock, e])
   have hg3 : B3 ≠ g := fun e => hn3 (by simp [Value.ownBlock, e])
   have hH := R_holds ho0
   let enc : Int → Value := fun x => .int .i64 (clampQ want.length x)
   let cf : Int → Int → Int := fun x y => restQ r want d (clampQ want.length y) - restQ r want d (clampQ want.length x)
   have henc : ∀ p, p < l0.toArray.size → enc l0.toArray[p]! = .int .i64 l0.toArray[p]! := fun p hpz => by
    have hp' : p < l0.length := by simpa using hpz
    rw [getElem!_pos l0.toArray p hpz]
    have := hin l0[p] (List.getElem_mem hp')
    show Value.int .i64 (clampQ want.length l0.toArray[p]) = _
    unfold clampQ
    rw [if_pos (by simpa using this)]
   have hH2 : Go.Sort.Holds enc w g 0 l0.toArray := fun j hj => by
    obtain ⟨q1, q2⟩ := hH j hj
    exact ⟨by rw [henc j hj]; exact q1, q2⟩
   have hcmp : CmpReads Try.prog 51 #[.pointer (some ⟨B1, 0, none⟩), .pointer (some ⟨B2, 0, none⟩), .pointer (some ⟨B3, 0, none⟩)] enc cf g 0 l0.toArray.size w := by
    intro m os dk hdk x y
    have hkeep : ∀ k, k < w.heap.size → k ≠ g → (sortWorld enc w g 0 m dk os).heap[k]? = w.heap[k]? := sortWorld_heapQ enc w g m dk os
    have hsz : w.heap.size ≤ (sortWorld enc w g 0 m dk os).heap.size := sortWorld_sizeQ enc w g m dk os
    have hK : Kept w (sortWorld enc w g 0 m dk os) (fun k_ => P0_ k_) := ⟨hsz, fun k hk hne => hkeep k hk (fun e => hne (e ▸ hPg))⟩
    have hC := hr2 _ hK
    have c1 := blk_cell ((hkeep B1 (blk_lt hb1) hg1).trans hb1) 0
    have c2 := blk_cell ((hkeep B2 (blk_lt hb2) hg2).trans hb2) 0
    have c3 := blk_cell ((hkeep B3 (blk_lt hb3) hg3).trans hb3) 0
    have hx := clampQ_range hwn x
    have hy := clampQ_range hwn y
    have hcall := dealOf_cmpQ r A2 _ want d B1 B2 B3 _ (clampQ want.length x) (clampQ want.length y) hx.1 hx.2 hy.1 hy.2 hd c1 c2 c3 hC
    have hbx := restQ_bound r want d hd (clampQ want.length x)
    have hby := restQ_bound r want d hd (clampQ want.length y)
    have e : wrap64 (restQ r want d (clampQ want.length y) - restQ r want d (clampQ want.length x)) = restQ r want d (clampQ want.length y) - restQ r want d (clampQ want.length x) := by
     generalize restQ r want d (clampQ want.length y) = u at *
     generalize restQ r want d (clampQ want.length x) = v at *
     unfold wrap64
     omega
    rw [e] at hcall
    exact hcall
   have hI := Any.insertionSortCmpFunc_one Try.stableL enc (fun _ => rfl) cf _ _ g 0 c 0 l0.toArray.size l0.toArray w eg hcmp hH2 (Nat.zero_le _) (Nat.le_refl _) (by simp; omega)
   have hlt2 : ltOf cf = byKeyQ (fun x => restQ r want d (clampQ want.length x)) := by
    funext x y
    show decide (restQ r want d (clampQ want.length y) - restQ r want d (clampQ want.length x) < 0) = decide (restQ r want d (clampQ want.length y) < restQ r want d (clampQ want.length x))
    exact decide_eq_decide.mpr (by omega)
   rw [hlt2] at hI
   have hsz : (Go.Sort.insertionSort (byKeyQ (fun x => restQ r want d (clampQ want.length x))) l0.toArray 0 l0.toArray.size).size = l0.length := by
    unfold Go.Sort.insertionSort
    rw [insOuterQ_size _ _ _ _ _ _ rfl]
    simp
   have hall := insOuter_allQ (fun v => enc v = .int .i64 v) (byKeyQ (fun x => restQ r want d (clampQ want.length x))) 0 l0.toArray.size _ (0 + 1) l0.toArray rfl (Nat.le_refl _) henc
   have hput := putRow_encQ enc w g (Go.Sort.insertionSort (byKeyQ (fun x => restQ r want d (clampQ want.length x))) l0.toArray 0 l0.toArray.size) (fun p hpz => hall p (by rw [hsz] at hpz; simpa using hpz))
   rw [hput] at hI
   have hS : stabQ (fun x => restQ r want d (clampQ want.length x)) l0 = (Go.Sort.insertionSort (byKeyQ (fun x => restQ r want d (clampQ want.length x))) l0.toArray 0 l0.toArray.size).toList := by unfold stabQ; rw [List.size_toArray]
   rw [hS]
   have hcalls := stableFuncQ (some ⟨g, 0, none⟩) l0.length c (.func (.func 51) #[] #[.pointer (some ⟨B1, 0, none⟩), .pointer (some ⟨B2, 0, none⟩), .pointer (some ⟨B3, 0, none⟩)]) w h20 _ hI
   refine hcalls.mono ?_
   rintro e w' ⟨rfl, q, hw'⟩
   generalize Go.Sort.insertionSort (byKeyQ (fun x => restQ r want d (clampQ want.length x))) l0.toArray 0 l0.toArray.size = res at hw' hsz
   obtain ⟨x1, x2, x3, x4⟩ := R_putRow (q := q) (os := #[]) (ys := res.toList) w0 hge (by simpa using hsz) ho0 hB
   have ew : Go.Sort.grow (Go.Sort.putRow (Value.int .i64) (Go.Sort.ahead w q) g 0 res.toList.toArray) #[] = w' := by
    rw [Go.Sort.grow_empty, hw', Array.toArray_toList]
    rfl
   rw [ew] at x1 x2 x3 x4
   exact ⟨rfl, Kd.R_mono x1 (fun k hk => .inl hk), x2, x4, fun k hk hne => x3 k hk (fun e => hne (e ▸ hPg))⟩
 ·rw [if_neg hc] at h
  cases h

/-! ### impl_DealOf: function 30 -/
mutual
def impl_DealOf.l0 : Nat → List Int → List Bool → List Int → List Int → Int → Int → Int → List Int → Int → Int → Option (List Int)
 | 0, _, _, _, _, _, _, _, _, _, _ => none
 | k + 1, x1, x7, x10, x11, x12, x38, x39, x324000, x331000, x332000 => if x39 < x38 then (if 0 ≤ x39 then (if x39 < (x7.length : Int) then (if rdOf false x7 x39 = true then (if x39 < (x1.length : Int) then (if x39 < (x10.length : Int) then ((some (x10.set (x39 : Int).toNat (rd x1 x39) : List Int)).bind fun y337 => (impl_DealOf.l0 k x1 x7 y337 x11 (wrap64 (x12 - (rd y337 x39))) x38 (wrap64 (x39 + 1)) x324000 x331000 x332000)) else (none)) else (none)) else (if x39 < (x324000.length : Int) then (if (rd x324000 x39) > 0 then (if x332000 = 0 then (none) else (if x39 < (x10.length : Int) then ((some (x10.set (x39 : Int).toNat (wrap64 (Int.tdiv (wrap64 (x331000 * (rd x324000 x39))) x332000)) : List Int)).bind fun y341 => (if x11.length < 17592186044416 then (impl_DealOf.l0 k x1 x7 y341 (x11 ++ [x39]) (wrap64 (x12 - (rd y341 x39))) x38 (wrap64 (x39 + 1)) x324000 x331000 x332000) else (none))) else (none))) else (if x39 < (x10.length : Int) then (impl_DealOf.l0 k x1 x7 x10 x11 (wrap64 (x12 - (rd x10 x39))) x38 (wrap64 (x39 + 1)) x324000 x331000 x332000) else (none))) else (none))) else (none)) else (none)) else ((hof_DealOf.f x11 x331000 x324000 x332000).bind fun t347 => (if 0 ≤ (mx 0 (mn x12 (x11.length : Int))) then (if (mx 0 (mn x12 (x11.length : Int))) ≤ (x11.length : Int) then ((some (t347.take ((mx 0 (mn x12 (x11.length : Int))) : Int).toNat : List Int)).bind fun y348 => (impl_DealOf.l1 k x10 y348 (y348.length : Int) 0)) else (none)) else (none)))
def impl_DealOf.l1 : Nat → List Int → List Int → Int → Int → Option (List Int)
 | 0, _, _, _, _ => none
 | k + 1, x10, x91, x92, x93 => if x93 < x92 then (if 0 ≤ x93 then (if x93 < (x91.length : Int) then (if 0 ≤ (rd x91 x93) then (if (rd x91 x93) < (x10.length : Int) then (impl_DealOf.l1 k (x10.set ((rd x91 x93) : Int).toNat (wrap64 ((rd x10 (rd x91 x93)) + 1))) x91 x92 (wrap64 (x93 + 1))) else (none)) else (none)) else (none)) else (none)) else (some x10)
end
def impl_DealOf.f (k : Nat) (l0 : List Int) (l1 : List Int) (a2 : Int) : Option (List Int) := (impl_DealOk.f k l0 l1 a2).bind fun t324 => (if t324 = true then ((impl_FullIn.f k l0 l1 a2).bind fun t325 => ((impl_left.f k l0 l1 a2 t325).bind fun bt328 => (if 0 ≤ (l0.length : Int) then (if ((l0.length : Int) : Int).toNat ≤ 35184372088832 then ((some (List.replicate ((l0.length : Int) : Int).toNat 0 : List Int)).bind fun y332 => (impl_DealOf.l0 k l1 t325 y332 ([] : List Int) a2 (y332.length : Int) 0 l0 bt328.1 bt328.2)) else (none)) else (none)))) else (some ([] : List Int)))
def impl_DealOf.T14 : Bool × List (List Nat × List Nat) := (true, [([], []), ([], []), ([], []), ([], []), ([], []), ([3, 4], [3, 4]), ([5], [5]), ([2, 6], [2, 6]), ([], []), ([7, 8], [7, 8]), ([0, 1, 0, 1, 2, 3, 4, 5, 6, 7, 8, 9], [0, 1]), ([10, 9, 0, 1, 2, 3, 4, 5, 6, 7, 8, 9], [9, 10])])
def impl_DealOf.B14 : List Nat := [0, 0, 0, 0, 0, 24, 56, 124, 0, 508, 1023, 2047]
theorem impl_DealOf.tab14 : rtab .any (opsOf Try.f30 14) = impl_DealOf.T14 := by kernel_rfl
theorem impl_DealOf.bits14 : waitsOk impl_DealOf.T14.2 impl_DealOf.B14 = true := by kernel_rfl
set_option maxHeartbeats 8000000 in
set_option maxRecDepth 100000 in
theorem impl_DealOf.calls (k : Nat) (A0 : Option Addr) (c0 : Nat) (l0 : List Int) (A1 : Option Addr) (c1 : Nat) (l1 : List Int) (a2 : Int) (r : List Int) (w : World) (hr0 : Kd.C (Kd.int .i64) w A0 l0.length l0) (hc0 : l0.length ≤ c0) (hr1 : Kd.C (Kd.int .i64) w A1 l1.length l1) (hc1 : l1.length ≤ c1) (h : impl_DealOf.f k l0 l1 a2 = some r) :
  Calls Try.prog 30 #[.slice A0 l0.length c0, .slice A1 l1.length c1, .int .i64 a2] w fun e w' => ∃ v0_ : Value, e = .returned (v0_) ∧ Kd.R (Kd.int .i64) 3 w' w.heap.size (fun _ => True) v0_ r ∧ Below w.heap.size w w' := by
 have HR0 := Aside0.mk hr0
 have HC0 := Aside0.mk hc0
 clear hr0 hc0
 have HR1 := Aside0.mk hr1
 have HC1 := Aside0.mk hc1
 clear hr1 hc1
 have HB := Aside0.mk (Below.refl w.heap.size w)
 have H : ((impl_DealOk.f k l0 l1 a2).bind fun t324 => (if t324 = true then ((impl_FullIn.f k l0 l1 a2).bind fun t325 => ((impl_left.f k l0 l1 a2 t325).bind fun bt328 => (if 0 ≤ (l0.length : Int) then (if ((l0.length : Int) : Int).toNat ≤ 35184372088832 then ((some (List.replicate ((l0.length : Int) : Int).toNat 0 : List Int)).bind fun y332 => (impl_DealOf.l0 k l1 t325 y332 ([] : List Int) a2 (y332.length : Int) 0 l0 bt328.1 bt328.2)) else (none)) else (none)))) else (some ([] : List Int)))) = some r := h
 clear h
 replace H := Option.bind_eq_some_iff.mp H
 obtain ⟨t324, A40, H⟩ := H
 replace H : (if t324 = true then ((impl_FullIn.f k l0 l1 a2).bind fun t325 => ((impl_left.f k l0 l1 a2 t325).bind fun bt328 => (if 0 ≤ (l0.length : Int) then (if ((l0.length : Int) : Int).toNat ≤ 35184372088832 then ((some (List.replicate ((l0.length : Int) : Int).toNat 0 : List Int)).bind fun y332 => (impl_DealOf.l0 k l1 t325 y332 ([] : List Int) a2 (y332.length : Int) 0 l0 bt328.1 bt328.2)) else (none)) else (none)))) else (some ([] : List Int))) = some r := H
 have A4 := Aside0.mk A40
 clear A40
 by_cases c5 : t324 = true
 ·subst c5
  have H1 : ((impl_FullIn.f k l0 l1 a2).bind fun t325 => ((impl_left.f k l0 l1 a2 t325).bind fun bt328 => (if 0 ≤ (l0.length : Int) then (if ((l0.length : Int) : Int).toNat ≤ 35184372088832 then ((some (List.replicate ((l0.length : Int) : Int).toNat 0 : List Int)).bind fun y332 => (impl_DealOf.l0 k l1 t325 y332 ([] : List Int) a2 (y332.length : Int) 0 l0 bt328.1 bt328.2)) else (none)) else (none)))) = some r := by rw [if_pos rfl] at H; exact H
  clear H
  have H := H1
  clear H1
  replace H := Option.bind_eq_some_iff.mp H
  obtain ⟨t325, A60, H⟩ := H
  replace H : ((impl_left.f k l0 l1 a2 t325).bind fun bt328 => (if 0 ≤ (l0.length : Int) then (if ((l0.length : Int) : Int).toNat ≤ 35184372088832 then ((some (List.replicate ((l0.length : Int) : Int).toNat 0 : List Int)).bind fun y332 => (impl_DealOf.l0 k l1 t325 y332 ([] : List Int) a2 (y332.length : Int) 0 l0 bt328.1 bt328.2)) else (none)) else (none))) = some r := H
  have A6 := Aside0.mk A60
  clear A60
  replace H := Option.bind_eq_some_iff.mp H
  obtain ⟨⟨t328, t329⟩, A70, H⟩ := H
  replace H : (if 0 ≤ (l0.length : Int) then (if ((l0.length : Int) : Int).toNat ≤ 35184372088832 then ((some (List.replicate ((l0.length : Int) : Int).toNat 0 : List Int)).bind fun y332 => (impl_DealOf.l0 k l1 t325 y332 ([] : List Int) a2 (y332.length : Int) 0 l0 t328 t329)) else (none)) else (none)) = some r := H
  have A7 := Aside0.mk A70
  clear A70
  by_cases c8 : 0 ≤ (l0.length : Int)
  ·rw [if_pos c8] at H
   have c8b0 := eq_true c8
   have c8b1 : decide (0 ≤ (l0.length : Int)) = true := decide_eq_true c8
   clear c8
   by_cases c9 : ((l0.length : Int) : Int).toNat ≤ 35184372088832
   ·rw [if_pos c9] at H
    have c9b0 := eq_true c9
    have c9b1 : decide (((l0.length : Int) : Int).toNat ≤ 35184372088832) = true := decide_eq_true c9
    clear c9
    obtain ⟨y332, hy332⟩ : ∃ y_ : List Int, y_ = (List.replicate ((l0.length : Int) : Int).toNat 0) := ⟨_, rfl⟩
    replace H : (impl_DealOf.l0 k l1 t325 y332 ([] : List Int) a2 (y332.length : Int) 0 l0 t328 t329) = some r := by first | (rw [hy332]; with_reducible exact H) | (have H2_ := (Option.bind_some _ _).symm.trans H; rw [hy332]; with_reducible exact H2_) | (have H2_ := (Option.bind_some _ _).symm.trans H; with_reducible exact H2_) | with_reducible exact H | (rw [hy332]; exact H) | exact H
    have Ny332 := Aside0.mk hy332
    clear hy332
    have H' := Aside0.mk H
    clear H
    go_enter Try.func30, Try.ntmps30
    go_wp2_with (first | ((with_reducible refine gate_dst (N := 3) rfl ?_); refine box_event ?hg (N := 3) ?hd (cs := #[.slice A0 l0.length c0]) (t := 24) ?hr ?_; (case hd => rfl); (case hg => rfl); (case hr => first | (go_simp; done) | (go_simp; rfl)); intro gb323 hg w10 hbox hb; have n0_ := Aside0.mk (below_step (uB HB.out) hb); have n1_ := Aside0.mk (hbox); have n2_ := Aside0.mk ((by rw [hg]; exact (below_size (uB HB.out)) : w.heap.size ≤ gb323)); have n3_ := Aside0.mk ((by rw [hg]; exact (below_size (uB HB.out)) : w.heap.size ≤ gb323)); clear HB; have HB := n0_; have BK323 := n1_; have GW323 := n2_; have GE323 := n3_; clear n0_ n1_ n2_ n3_; clear hb hbox hg; have hcz11_0 : w10.cell? ⟨gb323, 0, none⟩ = some (.slice A0 l0.length c0) := (blk_cell BK323.out 0).trans rfl; have hfz11_0 := blk_frozen BK323.out 0) | ((with_reducible refine gate_callee (f := 47) rfl ?_); refine goesL_ (some 19) rfl rfl Try.func47 (by kernel_rfl) rfl #[.slice A0 l0.length c0, .slice A1 l1.length c1, .int .i64 a2] rfl (by (try simp only [List.map_toArray, List.map_cons, List.map_nil]); first | done | rfl | (simp only [List.length_drop, List.length_take]; rfl)) ?_; (with_reducible refine (impl_DealOk.calls k _ _ l0 _ _ l1 a2 true _ ?side1 ?side2 ?side3 ?side4 A4.out).mono ?_); (case side1 => repeat (first | exact (Kd.C_below HR0.out HB.out) | (with_reducible refine Kd.C_alloc ?_ _) | (with_reducible refine Kd.C_drewN ?_ _) | (with_reducible refine Kd.C_drew ?_))); (case side2 => exact HC0.out); (case side3 => repeat (first | exact (Kd.C_below HR1.out HB.out) | (with_reducible refine Kd.C_alloc ?_ _) | (with_reducible refine Kd.C_drewN ?_ _) | (with_reducible refine Kd.C_drew ?_))); (case side4 => exact HC1.out); rintro e w12 ⟨rfl, hb⟩; refine ⟨_, rfl, ?_⟩; have n0_ := Aside0.mk (blk_below (g := gb323) (o := .cells #[.slice A0 l0.length c0] 24 (0, 0)) (by (with_reducible repeat (first | refine blk_drewN ?_ _ | refine blk_drew ?_ | refine blk_alloc ?_ _)); exact BK323.out) hb); have n1_ := Aside0.mk (below_step (by repeat (first | (with_reducible first | exact HB.out | apply below_alloc | apply pw_below_drewN | apply below_drew1 | refine below_set ?_ GE323.out) | exact HB.out)) hb); clear BK323; clear HB; have BK323 := n0_; have HB := n1_; clear n0_ n1_; (try clear hb); (try clear hb2); (try clear hk); (try clear hi); have hcz13_0 : w12.cell? ⟨gb323, 0, none⟩ = some (.slice A0 l0.length c0) := (blk_cell BK323.out 0).trans rfl; have hfz13_0 := blk_frozen BK323.out 0) | ((with_reducible refine gate_callee (f := 48) rfl ?_); refine goesL_ (some 24) rfl rfl Try.func48 (by kernel_rfl) rfl #[.slice A0 l0.length c0, .slice A1 l1.length c1, .int .i64 a2] rfl (by (try simp only [List.map_toArray, List.map_cons, List.map_nil]); first | done | rfl | (simp only [List.length_drop, List.length_take]; rfl)) ?_; (with_reducible refine (impl_FullIn.calls k _ _ l0 _ _ l1 a2 t325 _ ?side1 ?side2 ?side3 ?side4 A6.out).mono ?_); (case side1 => repeat (first | exact (Kd.C_below HR0.out HB.out) | (with_reducible refine Kd.C_alloc ?_ _) | (with_reducible refine Kd.C_drewN ?_ _) | (with_reducible refine Kd.C_drew ?_))); (case side2 => exact HC0.out); (case side3 => repeat (first | exact (Kd.C_below HR1.out HB.out) | (with_reducible refine Kd.C_alloc ?_ _) | (with_reducible refine Kd.C_drewN ?_ _) | (with_reducible refine Kd.C_drew ?_))); (case side4 => exact HC1.out); rintro e w14 ⟨v326, rfl, ho0, hb⟩; refine ⟨_, rfl, ?_⟩; have n0_ := Aside0.mk (Kd.R_lower ho0 (below_size (by repeat (first | (with_reducible first | exact HB.out | apply below_alloc | apply pw_below_drewN | apply below_drew1 | refine below_set ?_ GE323.out) | exact HB.out)))); have n1_ := Aside0.mk (blk_below (g := gb323) (o := .cells #[.slice A0 l0.length c0] 24 (0, 0)) (by (with_reducible repeat (first | refine blk_drewN ?_ _ | refine blk_drew ?_ | refine blk_alloc ?_ _)); exact BK323.out) hb); have n2_ := Aside0.mk (below_step (by repeat (first | (with_reducible first | exact HB.out | apply below_alloc | apply pw_below_drewN | apply below_drew1 | refine below_set ?_ GE323.out) | exact HB.out)) hb); clear BK323; clear HB; have HO327 := n0_; have BK323 := n1_; have HB := n2_; clear n0_ n1_ n2_; (try clear hb); (try clear hb2); (try clear hk); (try clear hi); (try clear ho0); have hcz15_0 : w14.cell? ⟨gb323, 0, none⟩ = some (.slice A0 l0.length c0) := (blk_cell BK323.out 0).trans rfl; have hfz15_0 := blk_frozen BK323.out 0; obtain ⟨Ao16, co16, eo16⟩ := Kd.R_slice HO327.out; subst eo16) | ((with_reducible refine gate_callee (f := 49) rfl ?_); refine goesL_ (some 30) rfl rfl Try.func49 (by kernel_rfl) rfl #[.slice A0 l0.length c0, .slice A1 l1.length c1, .int .i64 a2, .slice Ao16 t325.length co16] rfl (by (try simp only [List.map_toArray, List.map_cons, List.map_nil]); first | done | rfl | (simp only [List.length_drop, List.length_take]; rfl)) ?_; (with_reducible refine (impl_left.calls k _ _ l0 _ _ l1 a2 _ _ t325 t328 t329 _ ?side1 ?side2 ?side3 ?side4 ?side5 ?side6 A7.out).mono ?_); (case side1 => repeat (first | exact (Kd.C_below HR0.out HB.out) | (with_reducible refine Kd.C_alloc ?_ _) | (with_reducible refine Kd.C_drewN ?_ _) | (with_reducible refine Kd.C_drew ?_))); (case side2 => exact HC0.out); (case side3 => repeat (first | exact (Kd.C_below HR1.out HB.out) | (with_reducible refine Kd.C_alloc ?_ _) | (with_reducible refine Kd.C_drewN ?_ _) | (with_reducible refine Kd.C_drew ?_))); (case side4 => exact HC1.out); (case side5 => exact uC (Kd.R_reads' HO327.out).2.2); (case side6 => exact (Kd.R_reads' HO327.out).2.1); rintro e w' ⟨rfl, ⟨nd, rfl⟩⟩; refine ⟨_, rfl, ?_⟩; (try (rw [drewN_self w14]; generalize hq_ : World.drewN w14 _ = w14; have n0_ := Aside0.mk (Kd.R_at hq_ HO327.out); have n1_ := Aside0.mk (blk_at hq_ BK323.out); have n2_ := Aside0.mk (below_at hq_ HB.out); clear hq_ HO327 BK323 HB; have HO327 := n0_; have BK323 := n1_; have HB := n2_; clear n0_ n1_ n2_))) | ((with_reducible refine gate_dst (N := 8) rfl ?_); refine box_event ?hg (N := 8) ?hd (cs := #[.int .i64 0]) (t := 3) ?hr ?_; (case hd => rfl); (case hg => rfl); (case hr => first | (go_simp; done) | (go_simp; rfl)); intro gb330 hg w17 hbox hb; have n0_ := Aside0.mk (Kd.R_below (uR HO327.out) hb); have n1_ := Aside0.mk (blk_below (g := gb323) (o := .cells #[.slice A0 l0.length c0] 24 (0, 0)) (by (with_reducible repeat (first | refine blk_drewN ?_ _ | refine blk_drew ?_ | refine blk_alloc ?_ _)); exact BK323.out) hb); have n2_ := Aside0.mk (below_step (by repeat (first | (with_reducible first | exact HB.out | apply below_alloc | apply pw_below_drewN | apply below_drew1 | refine below_set ?_ GE323.out) | exact HB.out)) hb); have n3_ := Aside0.mk (hbox); have n4_ := Aside0.mk ((by rw [hg]; exact (below_size (by repeat (first | (with_reducible first | exact HB.out | apply below_alloc | apply pw_below_drewN | apply below_drew1 | refine below_set ?_ GE323.out) | exact HB.out))) : w.heap.size ≤ gb330)); have n5_ := Aside0.mk ((by rw [hg]; exact (below_size (by repeat (first | (with_reducible first | exact HB.out | apply below_alloc | apply pw_below_drewN | apply below_drew1 | refine below_set ?_ GE323.out) | exact HB.out))) : w.heap.size ≤ gb330)); have n6_ := Aside0.mk ((by rw [hg]; exact Nat.ne_of_lt (blk_lt (g := gb323) (o := .cells #[.slice A0 l0.length c0] 24 (0, 0)) (by (with_reducible repeat (first | refine blk_drewN ?_ _ | refine blk_drew ?_ | refine blk_alloc ?_ _)); exact BK323.out)) : gb323 ≠ gb330)); have n7_ := Aside0.mk ((by rw [hg]; exact Nat.ne_of_gt (blk_lt (g := gb323) (o := .cells #[.slice A0 l0.length c0] 24 (0, 0)) (by (with_reducible repeat (first | refine blk_drewN ?_ _ | refine blk_drew ?_ | refine blk_alloc ?_ _)); exact BK323.out)) : gb330 ≠ gb323)); clear HO327; clear BK323; clear HB; have HO327 := n0_; have BK323 := n1_; have HB := n2_; have BK330 := n3_; have GW330 := n4_; have GE330 := n5_; have NB323_330 := n6_; have NB330_323 := n7_; clear n0_ n1_ n2_ n3_ n4_ n5_ n6_ n7_; clear hb hbox hg) | ((with_reducible refine gate_dst (N := 9) rfl ?_); refine box_event ?hg (N := 9) ?hd (cs := #[.int .i64 0]) (t := 3) ?hr ?_; (case hd => rfl); (case hg => rfl); (case hr => first | (go_simp; done) | (go_simp; rfl)); intro gb331 hg w18 hbox hb; have n0_ := Aside0.mk (Kd.R_below (uR HO327.out) hb); have n1_ := Aside0.mk (blk_below (g := gb323) (o := .cells #[.slice A0 l0.length c0] 24 (0, 0)) (by (with_reducible repeat (first | refine blk_drewN ?_ _ | refine blk_drew ?_ | refine blk_alloc ?_ _)); exact BK323.out) hb); have n2_ := Aside0.mk (blk_below (g := gb330) (o := .cells #[.int .i64 0] 3 (0, 0)) (by (with_reducible repeat (first | refine blk_drewN ?_ _ | refine blk_drew ?_ | refine blk_alloc ?_ _)); exact BK330.out) hb); have n3_ := Aside0.mk (below_step (by repeat (first | (with_reducible first | exact HB.out | apply below_alloc | apply pw_below_drewN | apply below_drew1 | refine below_set ?_ GE323.out | refine below_set ?_ GE330.out) | exact HB.out)) hb); have n4_ := Aside0.mk (hbox); have n5_ := Aside0.mk ((by rw [hg]; exact (below_size (by repeat (first | (with_reducible first | exact HB.out | apply below_alloc | apply pw_below_drewN | apply below_drew1 | refine below_set ?_ GE323.out | refine below_set ?_ GE330.out) | exact HB.out))) : w.heap.size ≤ gb331)); have n6_ := Aside0.mk ((by rw [hg]; exact (below_size (by repeat (first | (with_reducible first | exact HB.out | apply below_alloc | apply pw_below_drewN | apply below_drew1 | refine below_set ?_ GE323.out | refine below_set ?_ GE330.out) | exact HB.out))) : w.heap.size ≤ gb331)); have n7_ := Aside0.mk ((by rw [hg]; exact Nat.ne_of_lt (blk_lt (g := gb323) (o := .cells #[.slice A0 l0.length c0] 24 (0, 0)) (by (with_reducible repeat (first | refine blk_drewN ?_ _ | refine blk_drew ?_ | refine blk_alloc ?_ _)); exact BK323.out)) : gb323 ≠ gb331)); have n8_ := Aside0.mk ((by rw [hg]; exact Nat.ne_of_gt (blk_lt (g := gb323) (o := .cells #[.slice A0 l0.length c0] 24 (0, 0)) (by (with_reducible repeat (first | refine blk_drewN ?_ _ | refine blk_drew ?_ | refine blk_alloc ?_ _)); exact BK323.out)) : gb331 ≠ gb323)); have n9_ := Aside0.mk ((by rw [hg]; exact Nat.ne_of_lt (blk_lt (g := gb330) (o := .cells #[.int .i64 0] 3 (0, 0)) (by (with_reducible repeat (first | refine blk_drewN ?_ _ | refine blk_drew ?_ | refine blk_alloc ?_ _)); exact BK330.out)) : gb330 ≠ gb331)); have n10_ := Aside0.mk ((by rw [hg]; exact Nat.ne_of_gt (blk_lt (g := gb330) (o := .cells #[.int .i64 0] 3 (0, 0)) (by (with_reducible repeat (first | refine blk_drewN ?_ _ | refine blk_drew ?_ | refine blk_alloc ?_ _)); exact BK330.out)) : gb331 ≠ gb330)); clear HO327; clear BK323; clear BK330; clear HB; have HO327 := n0_; have BK323 := n1_; have BK330 := n2_; have HB := n3_; have BK331 := n4_; have GW331 := n5_; have GE331 := n6_; have NB323_331 := n7_; have NB331_323 := n8_; have NB330_331 := n9_; have NB331_330 := n10_; clear n0_ n1_ n2_ n3_ n4_ n5_ n6_ n7_ n8_ n9_ n10_; clear hb hbox hg; have hnb19 := NB330_323.out; have hnc19 := NB323_330.out; have hnb20 := NB330_331.out; have hnc20 := NB331_330.out; have hcz21_0 : w18.cell? ⟨gb330, 0, none⟩ = some (.int .i64 0) := (blk_cell BK330.out 0).trans rfl; have hfz21_0 := blk_frozen BK330.out 0; have hnb22 := NB331_323.out; have hnc22 := NB323_331.out; have hcz23_0 : w18.cell? ⟨gb331, 0, none⟩ = some (.int .i64 0) := (blk_cell BK331.out 0).trans rfl; have hfz23_0 := blk_frozen BK331.out 0; have hcz24_0 : w18.cell? ⟨gb323, 0, none⟩ = some (.slice A0 l0.length c0) := (blk_cell BK323.out 0).trans rfl; have hfz24_0 := blk_frozen BK323.out 0) | ((with_reducible refine gate_dst (N := 35) rfl ?_); refine Kd.R_make (Kd.int .i64) _ 3 rfl (N := 35) rfl 24 _ _ rfl (l0.length : Int) rfl rfl Try.underlying24 (.int .i64 0) 8 info3 rfl (by decide) (by omega) 0 (ok := fun _ => True) (okp := fun _ => True) rfl (fun _ hk => hk) trivial (of_decide_eq_true (by first | (with_reducible assumption) | assumption)) (Nat.le_trans (Nat.mul_le_mul_right _ (of_decide_eq_true (by first | (with_reducible assumption) | assumption) : (l0.length : Int).toNat ≤ 35184372088832)) (by omega)) (Below.refl _ _) (Nat.le_refl _) ?_; intro v333 w25 ho26 hb hg_ hnew_; clear hg_ hnew_; (first | rw [← Ny332.out] at ho26 | (simp only [Int.reduceToNat] at ho26; rw [← Ny332.out] at ho26)); have n0_ := Aside0.mk (Kd.R_below (uR ((Kd.R_mono (Kd.R_mono (Kd.R_far (p := ⟨gb331, 0, none⟩) (Kd.R_far (p := ⟨gb330, 0, none⟩) (Kd.R_types (Kd.R_types HO327.out BK330.out (by decide)) BK331.out (by decide)) (fun _ hk => hk.1.2) (.int .i64 t328)) (fun _ hk => hk.2) (.int .i64 t329)) (fun _ h_ => h_.1)) (fun _ h_ => h_.1)))) hb); have n1_ := Aside0.mk (Kd.R_lower (Kd.R_newB (Kd.R_newB ho26 (g := gb330) (o := .cells #[.int .i64 t328] 3 (0, 0)) (by (with_reducible repeat (first | refine blk_drewN ?_ _ | refine blk_drew ?_ | refine blk_alloc ?_ _)); refine blk_far ?_ NB330_331.out _; (with_reducible repeat (first | refine blk_drewN ?_ _ | refine blk_drew ?_ | refine blk_alloc ?_ _)); refine blk_put (cs := #[.int .i64 0]) ?_ 0 _ rfl; (with_reducible repeat (first | refine blk_drewN ?_ _ | refine blk_drew ?_ | refine blk_alloc ?_ _)); exact BK330.out)) (g := gb331) (o := .cells #[.int .i64 t329] 3 (0, 0)) (by (with_reducible repeat (first | refine blk_drewN ?_ _ | refine blk_drew ?_ | refine blk_alloc ?_ _)); refine blk_put (cs := #[.int .i64 0]) ?_ 0 _ rfl; (with_reducible repeat (first | refine blk_drewN ?_ _ | refine blk_drew ?_ | refine blk_alloc ?_ _)); refine blk_far ?_ NB331_330.out _; (with_reducible repeat (first | refine blk_drewN ?_ _ | refine blk_drew ?_ | refine blk_alloc ?_ _)); exact BK331.out)) (below_size (by repeat (first | (with_reducible first | exact HB.out | apply below_alloc | apply pw_below_drewN | apply below_drew1 | refine below_set ?_ GE323.out | refine below_set ?_ GE330.out | refine below_set ?_ GE331.out) | exact HB.out)))); have n2_ := Aside0.mk (blk_below (g := gb323) (o := .cells #[.slice A0 l0.length c0] 24 (0, 0)) (by (with_reducible repeat (first | refine blk_drewN ?_ _ | refine blk_drew ?_ | refine blk_alloc ?_ _)); refine blk_far ?_ NB323_331.out _; (with_reducible repeat (first | refine blk_drewN ?_ _ | refine blk_drew ?_ | refine blk_alloc ?_ _)); refine blk_far ?_ NB323_330.out _; (with_reducible repeat (first | refine blk_drewN ?_ _ | refine blk_drew ?_ | refine blk_alloc ?_ _)); exact BK323.out) hb); have n3_ := Aside0.mk (blk_below (g := gb330) (o := .cells #[.int .i64 t328] 3 (0, 0)) (by (with_reducible repeat (first | refine blk_drewN ?_ _ | refine blk_drew ?_ | refine blk_alloc ?_ _)); refine blk_far ?_ NB330_331.out _; (with_reducible repeat (first | refine blk_drewN ?_ _ | refine blk_drew ?_ | refine blk_alloc ?_ _)); refine blk_put (cs := #[.int .i64 0]) ?_ 0 _ rfl; (with_reducible repeat (first | refine blk_drewN ?_ _ | refine blk_drew ?_ | refine blk_alloc ?_ _)); exact BK330.out) hb); have n4_ := Aside0.mk (blk_below (g := gb331) (o := .cells #[.int .i64 t329] 3 (0, 0)) (by (with_reducible repeat (first | refine blk_drewN ?_ _ | refine blk_drew ?_ | refine blk_alloc ?_ _)); refine blk_put (cs := #[.int .i64 0]) ?_ 0 _ rfl; (with_reducible repeat (first | refine blk_drewN ?_ _ | refine blk_drew ?_ | refine blk_alloc ?_ _)); refine blk_far ?_ NB331_330.out _; (with_reducible repeat (first | refine blk_drewN ?_ _ | refine blk_drew ?_ | refine blk_alloc ?_ _)); exact BK331.out) hb); have n5_ := Aside0.mk (below_step (by repeat (first | (with_reducible first | exact HB.out | apply below_alloc | apply pw_below_drewN | apply below_drew1 | refine below_set ?_ GE323.out | refine below_set ?_ GE330.out | refine below_set ?_ GE331.out) | exact HB.out)) hb); clear HO327; clear BK323; clear BK330; clear BK331; clear HB; have HO327 := n0_; have HO334 := n1_; have BK323 := n2_; have BK330 := n3_; have BK331 := n4_; have HB := n5_; clear n0_ n1_ n2_ n3_ n4_ n5_; clear hb ho26; obtain ⟨Ao27, co27, eo27⟩ := Kd.R_slice HO334.out; subst eo27))
    go_loopg [11, 12, 39] k (fun kq v11 v12 v39 w' => ∃ (x10_1 : List Int) (x11_1 : List Int) (x12_1 : Int) (x39_1 : Int), v12 = .int .i64 x12_1 ∧ v39 = .int .i64 x39_1 ∧ Aside0 (impl_DealOf.l0 kq l1 t325 x10_1 x11_1 x12_1 (y332.length : Int) x39_1 l0 t328 t329 = some r) ∧ Aside0 (kq ≤ k) ∧ Aside0 (Kd.R Kd.bool 4 w' w.heap.size (fun _ => True) (.slice Ao16 t325.length co16) t325) ∧ Aside0 (Kd.R (Kd.int .i64) 3 w' w.heap.size (fun k_ => some k_ ≠ (v11 : Value).ownBlock ∧ k_ ≠ gb330 ∧ k_ ≠ gb331) (.slice Ao27 y332.length co27) x10_1) ∧ Aside0 (Kd.R (Kd.int .i64) 3 w' w.heap.size (fun k_ => some k_ ≠ ((.slice Ao27 y332.length co27) : Value).ownBlock ∧ k_ ≠ gb330 ∧ k_ ≠ gb331) v11 x11_1) ∧ Aside0 (w'.heap[gb323]? = some (.cells #[(.slice A0 l0.length c0)] 24 (0, 0))) ∧ Aside0 (w'.heap[gb330]? = some (.cells #[.int .i64 t328] 3 (0, 0))) ∧ Aside0 (w'.heap[gb331]? = some (.cells #[.int .i64 t329] 3 (0, 0))) ∧ Aside0 (Below w.heap.size w w'))
    case atStart => exact ⟨(y332), (([] : List Int)), (a2), (0), (by first | rfl | (simp; done) | (simp [*]; done)), (by first | rfl | (simp; done) | (simp [*]; done)), H', ⟨Nat.le_refl _⟩, ⟨by (with_reducible repeat (first | apply Kd.R_alloc | apply Kd.R_drewN | apply Kd.R_drew)); exact HO327.out⟩, ⟨by (with_reducible repeat (first | apply Kd.R_alloc | apply Kd.R_drewN | apply Kd.R_drew)); exact Kd.R_mono HO334.out (fun _ hk => ⟨(by simp [Value.ownBlock]), ⟨hk.1.2, hk.2⟩⟩)⟩, ⟨by first | exact Kd.R_nil _ _ _ _ _ | exact Kd.N_nil _ _ _ _ _ | exact Kd.V_nil _ _ _ _ _ | exact Kd.Q_nil _ _ _ _ _ | exact Kd.S_nil _ _ _ _ _⟩, ⟨by (with_reducible repeat (first | refine blk_drewN ?_ _ | refine blk_drew ?_ | refine blk_alloc ?_ _)); exact BK323.out⟩, ⟨by (with_reducible repeat (first | refine blk_drewN ?_ _ | refine blk_drew ?_ | refine blk_alloc ?_ _)); exact BK330.out⟩, ⟨by (with_reducible repeat (first | refine blk_drewN ?_ _ | refine blk_drew ?_ | refine blk_alloc ?_ _)); exact BK331.out⟩, ⟨by repeat (first | (with_reducible first | exact HB.out | apply below_alloc | apply pw_below_drewN | apply below_drew1 | refine below_set ?_ GE323.out | refine below_set ?_ GE330.out | refine below_set ?_ GE331.out) | exact HB.out)⟩⟩
    case round =>
     clear H'
     try clear c1
     try clear c2
     try clear p2
     try clear c3
     try clear c4
     try clear c5
     try clear c8
     try clear c8b0
     try clear c8b1
     try clear c9
     try clear c9b0
     try clear c9b1
     try clear c19
     try clear c20
     try clear c22
     try clear hcz11_0
     try clear hcz13_0
     try clear hcz15_0
     try clear hcz21_0
     try clear hcz23_0
     try clear hcz24_0
     try clear hfz11_0
     try clear hfz13_0
     try clear hfz15_0
     try clear hfz21_0
     try clear hfz23_0
     try clear hfz24_0
     obtain ⟨x10_1, x11_1, x12_1, x39_1, rfl, rfl, HA, HK1, HO_7, HO_10, HO_11, BK323, BK330, BK331, HB⟩ := hrel
     have hl10_1 := (Kd.R_reads' HO_10.out).1
     rw [hl10_1] at HO_10
     (try simp only [hl10_1])
     (try simp only [hl10_1] at BK323)
     (try simp only [hl10_1] at BK330)
     (try simp only [hl10_1] at BK331)
     (try simp only [hl10_1] at HO_7)
     (try simp only [hl10_1] at HO_11)
     cases gk with
     | zero => exact absurd HA.out (by simp [impl_DealOf.l0])
     | succ k1 =>
      have H := HA.out
      clear HA
      simp only [impl_DealOf.l0] at H
      by_cases c28 : x39_1 < (y332.length : Int)
      ·rw [if_pos c28] at H
       have c28b0 : decide (x39_1 < (y332.length : Int)) = true := decide_eq_true c28
       have c28b0z := c28b0
       (try simp only [hl10_1] at c28b0z)
       clear c28
       by_cases c29 : 0 ≤ x39_1
       ·rw [if_pos c29] at H
        have c29b0 : decide (0 ≤ x39_1) = true := decide_eq_true c29
        clear c29
        by_cases c30 : x39_1 < (t325.length : Int)
        ·rw [if_pos c30] at H
         have c30b0 : decide (x39_1 < (t325.length : Int)) = true := decide_eq_true c30
         have c30b0z := c30b0
         (try simp only [hl10_1] at c30b0z)
         clear c30
         obtain ⟨bq31, hbq31⟩ : ∃ b_ : Bool, b_ = (rdOf false t325 x39_1) := ⟨_, rfl⟩
         replace H : (if bq31 = true then (if x39_1 < (l1.length : Int) then (if x39_1 < (x10_1.length : Int) then ((some (x10_1.set (x39_1 : Int).toNat (rd l1 x39_1) : List Int)).bind fun y337 => (impl_DealOf.l0 k1 l1 t325 y337 x11_1 (wrap64 (x12_1 - (rd y337 x39_1))) (y332.length : Int) (wrap64 (x39_1 + 1)) l0 t328 t329)) else (none)) else (none)) else (if x39_1 < (l0.length : Int) then (if (rd l0 x39_1) > 0 then (if t329 = 0 then (none) else (if x39_1 < (x10_1.length : Int) then ((some (x10_1.set (x39_1 : Int).toNat (wrap64 (Int.tdiv (wrap64 (t328 * (rd l0 x39_1))) t329)) : List Int)).bind fun y341 => (if x11_1.length < 17592186044416 then (impl_DealOf.l0 k1 l1 t325 y341 (x11_1 ++ [x39_1]) (wrap64 (x12_1 - (rd y341 x39_1))) (y332.length : Int) (wrap64 (x39_1 + 1)) l0 t328 t329) else (none))) else (none))) else (if x39_1 < (x10_1.length : Int) then (impl_DealOf.l0 k1 l1 t325 x10_1 x11_1 (wrap64 (x12_1 - (rd x10_1 x39_1))) (y332.length : Int) (wrap64 (x39_1 + 1)) l0 t328 t329) else (none))) else (none))) = some r := by rw [← hbq31] at H; exact H
         have Nbq31 := Aside0.mk hbq31
         clear hbq31
         by_cases c32 : bq31 = true
         ·subst c32
          have H1 : (if x39_1 < (l1.length : Int) then (if x39_1 < (x10_1.length : Int) then ((some (x10_1.set (x39_1 : Int).toNat (rd l1 x39_1) : List Int)).bind fun y337 => (impl_DealOf.l0 k1 l1 t325 y337 x11_1 (wrap64 (x12_1 - (rd y337 x39_1))) (y332.length : Int) (wrap64 (x39_1 + 1)) l0 t328 t329)) else (none)) else (none)) = some r := by rw [if_pos rfl] at H; exact H
          clear H
          have H := H1
          clear H1
          by_cases c33 : x39_1 < (l1.length : Int)
          ·rw [if_pos c33] at H
           have c33b0 : decide (x39_1 < (l1.length : Int)) = true := decide_eq_true c33
           have c33b0z := c33b0
           (try simp only [hl10_1] at c33b0z)
           clear c33
           by_cases c34 : x39_1 < (x10_1.length : Int)
           ·rw [if_pos c34] at H
            have c34b0 : decide (x39_1 < (x10_1.length : Int)) = true := decide_eq_true c34
            have c34b0z := c34b0
            (try simp only [hl10_1] at c34b0z)
            clear c34
            obtain ⟨y337, hy337⟩ : ∃ y_ : List Int, y_ = (x10_1.set (x39_1 : Int).toNat (rd l1 x39_1)) := ⟨_, rfl⟩
            replace H : (impl_DealOf.l0 k1 l1 t325 y337 x11_1 (wrap64 (x12_1 - (rd y337 x39_1))) (y332.length : Int) (wrap64 (x39_1 + 1)) l0 t328 t329) = some r := by first | (rw [hy337]; with_reducible exact H) | (have H2_ := (Option.bind_some _ _).symm.trans H; rw [hy337]; with_reducible exact H2_) | (have H2_ := (Option.bind_some _ _).symm.trans H; with_reducible exact H2_) | with_reducible exact H | (rw [hy337]; exact H) | exact H
            have Ny337 := Aside0.mk hy337
            clear hy337
            have H' := Aside0.mk H
            clear H
            have p335 : 0 ≤ (x39_1 : Int) := of_decide_eq_true (by first | (with_reducible assumption) | assumption)
            have q335 : x39_1 < (t325.length : Int) := of_decide_eq_true (by first | (with_reducible assumption) | assumption)
            obtain ⟨ad335, e335, hx335_0⟩ := Kd.at_bool (Kd.R_reads' HO_7.out).2.2 x39_1 p335 q335
            (try rw [← Nbq31.out] at hx335_0)
            cases e335
            replace p335 := eq_true p335
            replace q335 := eq_true q335
            have p336 : 0 ≤ (x39_1 : Int) := of_decide_eq_true (by first | (with_reducible assumption) | assumption)
            have q336 : x39_1 < (l1.length : Int) := of_decide_eq_true (by first | (with_reducible assumption) | assumption)
            obtain ⟨ad336, e336, hx336_0⟩ := Kd.at_int HR1.out x39_1 p336 q336
            cases e336
            replace hx336_0 := (HB.out.cell (World.block_lt_of_cell? w _ hx336_0)).trans hx336_0
            replace p336 := eq_true p336
            replace q336 := eq_true q336
            have p35 : 0 ≤ (x39_1 : Int) := of_decide_eq_true (by first | (with_reducible assumption) | assumption)
            have q35 : (x39_1 : Int) < ((x10_1.length : Int) : Int) := of_decide_eq_true (by first | (with_reducible assumption) | assumption)
            obtain ⟨go35, co35, eo35, gb35, gl35, cl35, HG35⟩ := Kd.R_form HO_10.out (by omega)
            (first | cases eo35 | (injection eo35 with ea_ en_ ec_; (first | subst ea_ | (injection ea_ with ea_; subst ea_)); subst ec_; clear en_))
            have GB35 := Aside0.mk gb35
            have GG35 := Aside0.mk HG35
            clear gb35 gl35 HG35
            obtain ⟨hx35_0, hf35_0⟩ := Kd.R_celln 0 HO_10.out (x39_1 : Int) p35 q35
            replace p35 := eq_true p35
            replace q35 := eq_true q35
            have HP36 := Kd.R_putg HO_10.out (x39_1 : Int) (rd l1 x39_1)
            go_wp2_with (first | ((with_reducible refine gate_store (t := 3) (p := 53) rfl ?_); refine store_event (t := 3) (p := 53) (v := ?vo_w37) (w1 := (wr.setCell ⟨go35, (x39_1 : Int).toNat, none⟩ (.int .i64 (rd l1 x39_1)))) ?hg ?ho ?hn ?hr ?_; (case ho => rfl); (case hg => rfl); (case hn => rfl); (case hr => first | (go_simp; done) | (go_simp; rfl)); intro w37 hw; have hg : wr.grownBy w37 (some go35) := (by rw [hw]; exact HP36.2); have hp_ : Kd.R (Kd.int .i64) 3 w37 w.heap.size (fun k_ => some k_ ≠ (u11 : Value).ownBlock ∧ k_ ≠ gb330 ∧ k_ ≠ gb331) (.slice (some ⟨go35, 0, none⟩) x10_1.length co27) y337 := (by rw [hw, Ny337.out]; exact HP36.1); clear HP36; have n0_ := Aside0.mk (Kd.R_over' (v := (.slice (some ⟨go35, 0, none⟩) x10_1.length co27)) (uR HO_7.out) (Kd.R_typed HO_10.out) (by decide) hg); have n1_ := Aside0.mk (hp_); have n2_ := Aside0.mk (Kd.R_after (v := (.slice (some ⟨go35, 0, none⟩) x10_1.length co27)) (v1 := (.slice (some ⟨go35, 0, none⟩) x10_1.length co27)) (ok := (fun k_ => k_ ≠ gb330 ∧ k_ ≠ gb331)) (uR (Kd.R_mono HO_11.out (fun _ hk => ⟨⟨hk.2.1, hk.2.2⟩, hk.1⟩))) hg (.inl rfl)); have n3_ := Aside0.mk (blk_grown (g := gb323) (o := .cells #[.slice A0 l0.length c0] 24 (0, 0)) (by (with_reducible repeat (first | refine blk_drewN ?_ _ | refine blk_drew ?_ | refine blk_alloc ?_ _)); exact BK323.out) hg (Kd.R_ne HO_10.out BK323.out (by decide))); have n4_ := Aside0.mk (blk_grown (g := gb330) (o := .cells #[.int .i64 t328] 3 (0, 0)) (by (with_reducible repeat (first | refine blk_drewN ?_ _ | refine blk_drew ?_ | refine blk_alloc ?_ _)); exact BK330.out) hg (Kd.R_away HO_10.out (fun _ hk => hk.2.1))); have n5_ := Aside0.mk (blk_grown (g := gb331) (o := .cells #[.int .i64 t329] 3 (0, 0)) (by (with_reducible repeat (first | refine blk_drewN ?_ _ | refine blk_drew ?_ | refine blk_alloc ?_ _)); exact BK331.out) hg (Kd.R_away HO_10.out (fun _ hk => hk.2.2))); have n6_ := Aside0.mk ((by rw [hw]; exact below_set (HB.out) GB35.out : Below w.heap.size w w37)); clear HO_7; clear HO_10; clear HO_11; clear BK323; clear BK330; clear BK331; clear HB; have HO_7 := n0_; have HO_10 := n1_; have HO_11 := n2_; have BK323 := n3_; have BK330 := n4_; have BK331 := n5_; have HB := n6_; clear n0_ n1_ n2_ n3_ n4_ n5_ n6_; clear hg hw hp_; have p338 : 0 ≤ (x39_1 : Int) := of_decide_eq_true (by first | (with_reducible assumption) | assumption); have q338 : x39_1 < (y337.length : Int) := (by have h_ : (x39_1 : Int) < ((x10_1.length : Int) : Int) := of_decide_eq_true (by first | (with_reducible assumption) | assumption); first | (have e_ := (Kd.R_reads' HO_10.out).1; omega) | simpa only [Ny337.out, List.length_set] using h_); have ql338 : ((x39_1 : Int) < ((x10_1.length : Int) : Int)) = True := eq_true (of_decide_eq_true (by first | (with_reducible assumption) | assumption)); obtain ⟨ad338, e338, hx338_0⟩ := Kd.at_int (Kd.R_reads' HO_10.out).2.2 x39_1 p338 q338; obtain rfl : (⟨go35, 0, none⟩ : Addr) = ad338 := (by injection e338); (first | simp only [add_plain] at hx338_0 | simp only [add_at] at hx338_0 | simp only [Addr.add, Nat.zero_add] at hx338_0 | skip); replace p338 := eq_true p338; replace q338 := eq_true q338))
            (try simp only [← hl10_1])
            (first | go_roundg k1 | (simp only [add_plain] at *; go_roundg k1))
            case measure => have := HK1.out; omega
            case rel => exact ⟨(y337), (x11_1), (wrap64 (x12_1 - (rd y337 x39_1))), (wrap64 (x39_1 + 1)), (by first | rfl | (simp; done) | (simp [*]; done)), (by first | rfl | (simp; done) | (simp [*]; done)), H', ⟨by have := HK1.out; omega⟩, ⟨by (try simp only [hl10_1]); (with_reducible repeat (first | apply Kd.R_alloc | apply Kd.R_drewN | apply Kd.R_drew)); exact HO_7.out⟩, ⟨by (try simp only [hl10_1]); (with_reducible repeat (first | apply Kd.R_alloc | apply Kd.R_drewN | apply Kd.R_drew)); exact HO_10.out⟩, ⟨by (try simp only [hl10_1]); (with_reducible repeat (first | apply Kd.R_alloc | apply Kd.R_drewN | apply Kd.R_drew)); exact Kd.R_mono HO_11.out (fun _ hk => ⟨hk.2, ⟨hk.1.1, hk.1.2⟩⟩)⟩, ⟨by (try simp only [hl10_1]); (with_reducible repeat (first | refine blk_drewN ?_ _ | refine blk_drew ?_ | refine blk_alloc ?_ _)); exact BK323.out⟩, ⟨by (try simp only [hl10_1]); (with_reducible repeat (first | refine blk_drewN ?_ _ | refine blk_drew ?_ | refine blk_alloc ?_ _)); exact BK330.out⟩, ⟨by (try simp only [hl10_1]); (with_reducible repeat (first | refine blk_drewN ?_ _ | refine blk_drew ?_ | refine blk_alloc ?_ _)); exact BK331.out⟩, ⟨by repeat (first | (with_reducible first | exact HB.out | apply below_alloc | apply pw_below_drewN | apply below_drew1 | refine below_set ?_ GE323.out | refine below_set ?_ GE330.out | refine below_set ?_ GE331.out) | exact HB.out)⟩⟩
           ·rw [if_neg c34] at H
            exact absurd H (by simp)
          ·rw [if_neg c33] at H
           exact absurd H (by simp)
         ·replace c32 := Bool.eq_false_iff.mpr c32
          subst c32
          have H1 : (if x39_1 < (l0.length : Int) then (if (rd l0 x39_1) > 0 then (if t329 = 0 then (none) else (if x39_1 < (x10_1.length : Int) then ((some (x10_1.set (x39_1 : Int).toNat (wrap64 (Int.tdiv (wrap64 (t328 * (rd l0 x39_1))) t329)) : List Int)).bind fun y341 => (if x11_1.length < 17592186044416 then (impl_DealOf.l0 k1 l1 t325 y341 (x11_1 ++ [x39_1]) (wrap64 (x12_1 - (rd y341 x39_1))) (y332.length : Int) (wrap64 (x39_1 + 1)) l0 t328 t329) else (none))) else (none))) else (if x39_1 < (x10_1.length : Int) then (impl_DealOf.l0 k1 l1 t325 x10_1 x11_1 (wrap64 (x12_1 - (rd x10_1 x39_1))) (y332.length : Int) (wrap64 (x39_1 + 1)) l0 t328 t329) else (none))) else (none)) = some r := by rw [if_neg (show ¬ (false = true) by decide)] at H; exact H
          clear H
          have H := H1
          clear H1
          by_cases c38 : x39_1 < (l0.length : Int)
          ·rw [if_pos c38] at H
           have c38b0 : decide (x39_1 < (l0.length : Int)) = true := decide_eq_true c38
           have c38b0z := c38b0
           (try simp only [hl10_1] at c38b0z)
           clear c38
           by_cases c39 : (rd l0 x39_1) > 0
           ·rw [if_pos c39] at H
            have c39b0 : decide (0 < (rd l0 x39_1)) = true := decide_eq_true c39
            clear c39
            by_cases c40 : t329 = 0
            ·rw [if_pos c40] at H
             exact absurd H (by simp)
            ·rw [if_neg c40] at H
             have c40b0 : (t329 == 0) = false := beq_eq_false_iff_ne.mpr c40
             have c40b1 : (t329 != 0) = true := bne_iff_ne.mpr c40
             by_cases c41 : x39_1 < (x10_1.length : Int)
             ·rw [if_pos c41] at H
              have c41b0 : decide (x39_1 < (x10_1.length : Int)) = true := decide_eq_true c41
              have c41b0z := c41b0
              (try simp only [hl10_1] at c41b0z)
              clear c41
              obtain ⟨y341, hy341⟩ : ∃ y_ : List Int, y_ = (x10_1.set (x39_1 : Int).toNat (wrap64 (Int.tdiv (wrap64 (t328 * (rd l0 x39_1))) t329))) := ⟨_, rfl⟩
              replace H : (if x11_1.length < 17592186044416 then (impl_DealOf.l0 k1 l1 t325 y341 (x11_1 ++ [x39_1]) (wrap64 (x12_1 - (rd y341 x39_1))) (y332.length : Int) (wrap64 (x39_1 + 1)) l0 t328 t329) else (none)) = some r := by first | (rw [hy341]; with_reducible exact H) | (have H2_ := (Option.bind_some _ _).symm.trans H; rw [hy341]; with_reducible exact H2_) | (have H2_ := (Option.bind_some _ _).symm.trans H; with_reducible exact H2_) | with_reducible exact H | (rw [hy341]; exact H) | exact H
              have Ny341 := Aside0.mk hy341
              clear hy341
              by_cases c43 : x11_1.length < 17592186044416
              ·rw [if_pos c43] at H
               have LMc43 := Aside0.mk c43
               clear c43
               obtain ⟨y342, hy342⟩ : ∃ y_ : List Int, y_ = (x11_1 ++ [x39_1]) := ⟨_, rfl⟩
               replace H : (impl_DealOf.l0 k1 l1 t325 y341 y342 (wrap64 (x12_1 - (rd y341 x39_1))) (y332.length : Int) (wrap64 (x39_1 + 1)) l0 t328 t329) = some r := by first | (rw [hy342]; with_reducible exact H) | (have H2_ := (Option.bind_some _ _).symm.trans H; rw [hy342]; with_reducible exact H2_) | (have H2_ := (Option.bind_some _ _).symm.trans H; with_reducible exact H2_) | with_reducible exact H | (rw [hy342]; exact H) | exact H
               have Ny342 := Aside0.mk hy342
               clear hy342
               have H' := Aside0.mk H
               clear H
               have p335 : 0 ≤ (x39_1 : Int) := of_decide_eq_true (by first | (with_reducible assumption) | assumption)
               have q335 : x39_1 < (t325.length : Int) := of_decide_eq_true (by first | (with_reducible assumption) | assumption)
               obtain ⟨ad335, e335, hx335_0⟩ := Kd.at_bool (Kd.R_reads' HO_7.out).2.2 x39_1 p335 q335
               (try rw [← Nbq31.out] at hx335_0)
               cases e335
               replace p335 := eq_true p335
               replace q335 := eq_true q335
               have hnb44 := NB323_330.out
               have hnc44 := NB330_323.out
               have hnb45 := NB323_331.out
               have hnc45 := NB331_323.out
               have hcz46_0 : wr.cell? ⟨gb323, 0, none⟩ = some (.slice A0 l0.length c0) := (blk_cell BK323.out 0).trans rfl
               have hfz46_0 := blk_frozen BK323.out 0
               have p339 : 0 ≤ (x39_1 : Int) := of_decide_eq_true (by first | (with_reducible assumption) | assumption)
               have q339 : x39_1 < (l0.length : Int) := of_decide_eq_true (by first | (with_reducible assumption) | assumption)
               obtain ⟨ad339, e339, hx339_0⟩ := Kd.at_int HR0.out x39_1 p339 q339
               cases e339
               replace hx339_0 := (HB.out.cell (World.block_lt_of_cell? w _ hx339_0)).trans hx339_0
               replace p339 := eq_true p339
               replace q339 := eq_true q339
               try go_wp2
               have n0_ := Aside0.mk (Kd.R_drew HO_7.out)
               have n1_ := Aside0.mk (Kd.R_drew HO_10.out)
               have n2_ := Aside0.mk (Kd.R_drew HO_11.out)
               have n3_ := Aside0.mk (blk_drew BK323.out)
               have n4_ := Aside0.mk (blk_drew BK330.out)
               have n5_ := Aside0.mk (blk_drew BK331.out)
               have n6_ := Aside0.mk (below_drew1 HB.out)
               clear HO_7
               clear HO_10
               clear HO_11
               clear BK323
               clear BK330
               clear BK331
               clear HB
               have HO_7 := n0_
               have HO_10 := n1_
               have HO_11 := n2_
               have BK323 := n3_
               have BK330 := n4_
               have BK331 := n5_
               have HB := n6_
               clear n0_ n1_ n2_ n3_ n4_ n5_ n6_
               have p340 : 0 ≤ (x39_1 : Int) := of_decide_eq_true (by first | (with_reducible assumption) | assumption)
               have q340 : x39_1 < (l0.length : Int) := of_decide_eq_true (by first | (with_reducible assumption) | assumption)
               obtain ⟨ad340, e340, hx340_0⟩ := Kd.at_int HR0.out x39_1 p340 q340
               have hw340_0 := hx340_0
               obtain rfl : ad339 = ad340 := (by injection e340)
               replace hx340_0 := (HB.out.cell (World.block_lt_of_cell? w _ hx340_0)).trans hx340_0
               replace p340 := eq_true p340
               replace q340 := eq_true q340
               have p42 : 0 ≤ (x39_1 : Int) := of_decide_eq_true (by first | (with_reducible assumption) | assumption)
               have q42 : (x39_1 : Int) < ((x10_1.length : Int) : Int) := of_decide_eq_true (by first | (with_reducible assumption) | assumption)
               obtain ⟨go42, co42, eo42, gb42, gl42, cl42, HG42⟩ := Kd.R_form HO_10.out (by omega)
               (first | cases eo42 | (injection eo42 with ea_ en_ ec_; (first | subst ea_ | (injection ea_ with ea_; subst ea_)); subst ec_; clear en_))
               have GB42 := Aside0.mk gb42
               have GG42 := Aside0.mk HG42
               clear gb42 gl42 HG42
               obtain ⟨hx42_0, hf42_0⟩ := Kd.R_celln 0 HO_10.out (x39_1 : Int) p42 q42
               replace p42 := eq_true p42
               replace q42 := eq_true q42
               have HP48 := Kd.R_putn HO_10.out (x39_1 : Int) (wrap64 (Int.tdiv (wrap64 (t328 * (rd l0 x39_1))) t329))
               rw [← Ny341.out] at HP48
               have HQ48 := Aside0.mk HP48
               clear HP48
               refine start_ (n := 12) (S := fun w' => w'.cell? ⟨gb330, 0, none⟩ = some (.int .i64 t328) ∧ w'.cell? ⟨gb323, 0, none⟩ = some (.slice (some ad339) l0.length c0) ∧ w'.cell? ⟨gb331, 0, none⟩ = some (.int .i64 t329) ∧ w'.cell? (ad339.add (x39_1).toNat) = some (.int .i64 (rd l0 x39_1))) (ds := [11]) #[false, false, false, false, false, false, false, false, false, false, false, false] (by kernel_rfl) rfl rfl ⟨(blk_cell BK330.out 0).trans rfl, (blk_cell BK323.out 0).trans rfl, (blk_cell BK331.out 0).trans rfl, ((HB.out.cell (World.block_lt_of_cell? w _ hw340_0)).trans hw340_0)⟩ (fun hHeld => ?_); refine with_tabW impl_DealOf.tab14 impl_DealOf.bits14 (fun HT_ HW_ => ?_)
               generalize wr.drew = w47 at HO_7 HO_10 HO_11 BK323 BK330 BK331 HB GG42 HQ48 hf42_0 hx340_0 hx42_0 hHeld ⊢
               refine pure_ (i := 0) (N := some 60) (v := ?_) (a' := ?_) #[true, false, false, false, false, false, false, false, false, false, false, false] rfl rfl (any_of HT_.out (by kernel_rfl)) (fun _ _ _ h => h) (Or.inl ⟨by rfl, ?_⟩) ?_ ?_
               rotate_left
               ·intro w'
                go_simp
                with_reducible rfl
               rotate_left
               ·simp only [Act.put, List.setIfInBounds_toArray, List.set_cons_zero, List.set_cons_succ, i64_w, i32_w]
                rfl
               refine pure_ (i := 1) (N := some 61) (v := ?_) (a' := ?_) #[true, true, false, false, false, false, false, false, false, false, false, false] rfl rfl (any_of HT_.out (by kernel_rfl)) (fun _ _ _ h => h) (Or.inl ⟨by rfl, ?_⟩) ?_ ?_
               rotate_left
               ·intro w'
                go_simp
                with_reducible rfl
               rotate_left
               ·simp only [Act.put, List.setIfInBounds_toArray, List.set_cons_zero, List.set_cons_succ, i64_w, i32_w]
                rfl
               refine pure_ (i := 4) (N := some 64) (v := ?_) (a' := ?_) #[true, true, false, false, true, false, false, false, false, false, false, false] rfl rfl (any_of HT_.out (by kernel_rfl)) (fun _ _ _ h => h) (Or.inl ⟨by rfl, ?_⟩) ?_ ?_
               rotate_left
               ·intro w'
                go_simp
                with_reducible rfl
               rotate_left
               ·simp only [Act.put, List.setIfInBounds_toArray, List.set_cons_zero, List.set_cons_succ, i64_w, i32_w]
                rfl
               refine take_ (i := 2) (N := some 62) (v := ?_) (a' := ?_) #[true, true, true, false, true, false, false, false, false, false, false, false] rfl rfl (take_ofW HT_.out HW_.out (by kernel_rfl)) (fun _ _ _ h => h) (Or.inl ⟨by rfl, ?_⟩) hHeld ?_ ?_
               rotate_left
               ·rintro w' ⟨s0, s1, s2, s3⟩
                go_simp
                with_reducible rfl
               rotate_left
               ·simp only [Act.put, List.setIfInBounds_toArray, List.set_cons_zero, List.set_cons_succ, i64_w, i32_w]
                rfl
               refine take_ (i := 3) (N := some 63) (v := ?_) (a' := ?_) #[true, true, true, true, true, false, false, false, false, false, false, false] rfl rfl (take_ofW HT_.out HW_.out (by kernel_rfl)) (fun _ _ _ h => h) (Or.inl ⟨by rfl, ?_⟩) hHeld ?_ ?_
               rotate_left
               ·rintro w' ⟨s0, s1, s2, s3⟩
                go_simp
                with_reducible rfl
               rotate_left
               ·simp only [Act.put, List.setIfInBounds_toArray, List.set_cons_zero, List.set_cons_succ, i64_w, i32_w]
                rfl
               refine pure_ (i := 5) (N := some 65) (v := ?_) (a' := ?_) #[true, true, true, true, true, true, false, false, false, false, false, false] rfl rfl (any_of HT_.out (by kernel_rfl)) (fun _ _ _ h => h) (Or.inl ⟨by rfl, ?_⟩) ?_ ?_
               rotate_left
               ·intro w'
                go_simp
                with_reducible rfl
               rotate_left
               ·simp only [Act.put, List.setIfInBounds_toArray, List.set_cons_zero, List.set_cons_succ, i64_w, i32_w]
                rfl
               refine take_ (i := 6) (N := some 66) (v := ?_) (a' := ?_) #[true, true, true, true, true, true, true, false, false, false, false, false] rfl rfl (take_ofW HT_.out HW_.out (by kernel_rfl)) (fun _ _ _ h => h) (Or.inl ⟨by rfl, ?_⟩) hHeld ?_ ?_
               rotate_left
               ·rintro w' ⟨s0, s1, s2, s3⟩
                go_simp
                with_reducible rfl
               rotate_left
               ·simp only [Act.put, List.setIfInBounds_toArray, List.set_cons_zero, List.set_cons_succ, i64_w, i32_w]
                rfl
               refine pure_ (i := 7) (N := some 67) (v := ?_) (a' := ?_) #[true, true, true, true, true, true, true, true, false, false, false, false] rfl rfl (any_of HT_.out (by kernel_rfl)) (fun _ _ _ h => h) (Or.inl ⟨by rfl, ?_⟩) ?_ ?_
               rotate_left
               ·intro w'
                go_simp
                with_reducible rfl
               rotate_left
               ·simp only [Act.put, List.setIfInBounds_toArray, List.set_cons_zero, List.set_cons_succ, i64_w, i32_w]
                rfl
               refine take_ (i := 8) (N := some 68) (v := ?_) (a' := ?_) #[true, true, true, true, true, true, true, true, true, false, false, false] rfl rfl (take_ofW HT_.out HW_.out (by kernel_rfl)) (fun _ _ _ h => h) (Or.inl ⟨by rfl, ?_⟩) hHeld ?_ ?_
               rotate_left
               ·rintro w' ⟨s0, s1, s2, s3⟩
                go_simp
                with_reducible rfl
               rotate_left
               ·simp only [Act.put, List.setIfInBounds_toArray, List.set_cons_zero, List.set_cons_succ, i64_w, i32_w]
                rfl
               refine pure_ (i := 9) (N := some 69) (v := ?_) (a' := ?_) #[true, true, true, true, true, true, true, true, true, true, false, false] rfl rfl (any_of HT_.out (by kernel_rfl)) (fun _ _ _ h => h) (Or.inl ⟨by rfl, ?_⟩) ?_ ?_
               rotate_left
               ·intro w'
                go_simp
                with_reducible rfl
               rotate_left
               ·simp only [Act.put, List.setIfInBounds_toArray, List.set_cons_zero, List.set_cons_succ, i64_w, i32_w]
                rfl
               refine pure_ (i := 10) (N := some 70) (v := ?_) (a' := ?_) #[true, true, true, true, true, true, true, true, true, true, true, false] rfl rfl (any_of HT_.out (by kernel_rfl)) (fun _ _ _ h => h) (Or.inl ⟨by rfl, ?_⟩) ?_ ?_
               rotate_left
               ·intro w'
                go_simp
                with_reducible rfl
               rotate_left
               ·simp only [Act.put, List.setIfInBounds_toArray, List.set_cons_zero, List.set_cons_succ, i64_w, i32_w]
                rfl
               refine last_ (i := 11) (N := none) #[true, true, true, true, true, true, true, true, true, true, true, true] rfl rfl (one_of HT_.out (by kernel_rfl)) (by decide) (fun K hK => ?_)
               refine skip_ (w1 := ?_) (by rfl) rfl ?_ ?_
               rotate_left
               ·go_simp
                rfl
               refine hK.out _ _ ?_
               clear hK K
               refine done_ (done_of HT_.out (by kernel_rfl)) ?_
               try go_wp2_with (first | ((with_reducible refine gate_builtin (b := .append) (xs := #[.tmp 71, .tmp 73]) rfl ?_); at_builtin; refine Kd.R_append (Kd.int .i64) (w0 := w) w.heap.size rfl (.tmp 71) (.tmp 73) 24 3 (.int .i64 0) 8 rfl Try.underlying24 info3 rfl (by decide) (by omega) u11 x11_1 x39_1 [.int .i64 x39_1] (fun k_ => some k_ ≠ (.slice (some ⟨go42, 0, none⟩) x10_1.length co27 : Value).ownBlock ∧ k_ ≠ gb330 ∧ k_ ≠ gb331) (fun _ => False) rfl (by first | (go_simp; done) | (go_simp; rfl)) ?aP (fun _ hk => hk.elim) ?aF ?aO ?aB ?aS ?aL ?_; (case aP => exact rfl); (case aB => exact (by repeat (first | (with_reducible first | exact HB.out | apply below_alloc | apply pw_below_drewN | apply below_drew1 | refine below_set ?_ GB42.out | refine below_set ?_ GE323.out | refine below_set ?_ GE330.out | refine below_set ?_ GE331.out) | exact HB.out))); (case aF => exact (fun k_ hk => ⟨Kd.fresh' (Kd.R_lt (uR HQ48.out)) k_ hk, Kd.freshB (g := gb330) (o := .cells #[.int .i64 t328] 3 (0, 0)) (by (with_reducible repeat (first | refine blk_drewN ?_ _ | refine blk_drew ?_ | refine blk_alloc ?_ _)); refine blk_far ?_ (by have h_ := Kd.R_away HO_10.out (fun _ hk => hk.2.1); intro e_; exact h_ (by rw [e_]; rfl)) _; (with_reducible repeat (first | refine blk_drewN ?_ _ | refine blk_drew ?_ | refine blk_alloc ?_ _)); exact BK330.out) k_ hk, Kd.freshB (g := gb331) (o := .cells #[.int .i64 t329] 3 (0, 0)) (by (with_reducible repeat (first | refine blk_drewN ?_ _ | refine blk_drew ?_ | refine blk_alloc ?_ _)); refine blk_far ?_ (by have h_ := Kd.R_away HO_10.out (fun _ hk => hk.2.2); intro e_; exact h_ (by rw [e_]; rfl)) _; (with_reducible repeat (first | refine blk_drewN ?_ _ | refine blk_drew ?_ | refine blk_alloc ?_ _)); exact BK331.out) k_ hk⟩)); (case aO => exact (uR (Kd.R_mono (Kd.R_far (p := ⟨go42, (x39_1 : Int).toNat, none⟩) (Kd.R_mono HO_11.out (fun k_ hk => (⟨hk, fun e_ => hk.1 (by rw [e_]; rfl)⟩ : _ ∧ k_ ≠ go42))) (fun _ hk => hk.2) (.int .i64 (wrap64 (Int.tdiv (wrap64 (t328 * (rd l0 x39_1))) t329)))) (fun _ hk => ⟨hk.1.1, ⟨hk.1.2.1, hk.1.2.2⟩⟩)))); (case aS => exact (below_size (by repeat (first | (with_reducible first | exact HB.out | apply below_alloc | apply pw_below_drewN | apply below_drew1 | refine below_set ?_ GB42.out | refine below_set ?_ GE323.out | refine below_set ?_ GE330.out | refine below_set ?_ GE331.out) | exact HB.out)))); (case aL => have := LMc43.out; omega); intro v343 w49 ho hb hg hat; rw [← Ny342.out] at ho; have n0_ := Aside0.mk (Kd.R_over' (uR ((Kd.R_mono (Kd.R_far (p := ⟨go42, (x39_1 : Int).toNat, none⟩) (Kd.R_types HO_7.out GG42.out (by decide)) (fun _ hk => hk.2) (.int .i64 (wrap64 (Int.tdiv (wrap64 (t328 * (rd l0 x39_1))) t329)))) (fun _ h_ => h_.1)))) (Kd.R_typed (uR ((Kd.R_mono (Kd.R_far (p := ⟨go42, (x39_1 : Int).toNat, none⟩) (Kd.R_mono HO_11.out (fun k_ hk => (⟨hk, fun e_ => hk.1 (by rw [e_]; rfl)⟩ : _ ∧ k_ ≠ go42))) (fun _ hk => hk.2) (.int .i64 (wrap64 (Int.tdiv (wrap64 (t328 * (rd l0 x39_1))) t329)))) (fun _ h_ => h_.1))))) (by decide) hg); have n1_ := Aside0.mk (Kd.R_after (ok := (fun k_ => k_ ≠ gb330 ∧ k_ ≠ gb331)) (uR (Kd.R_mono HQ48.out (fun _ hk => ⟨⟨hk.2.1, hk.2.2⟩, hk.1⟩))) hg hat); have n2_ := Aside0.mk (blk_grown (g := gb323) (o := .cells #[.slice (some ad339) l0.length c0] 24 (0, 0)) (by (with_reducible repeat (first | refine blk_drewN ?_ _ | refine blk_drew ?_ | refine blk_alloc ?_ _)); refine blk_far ?_ (by have h_ := Kd.R_ne HO_10.out BK323.out (by decide); intro e_; exact h_ (by rw [e_]; rfl)) _; (with_reducible repeat (first | refine blk_drewN ?_ _ | refine blk_drew ?_ | refine blk_alloc ?_ _)); exact BK323.out) hg (Kd.R_ne HO_11.out BK323.out (by decide))); have n3_ := Aside0.mk (blk_grown (g := gb330) (o := .cells #[.int .i64 t328] 3 (0, 0)) (by (with_reducible repeat (first | refine blk_drewN ?_ _ | refine blk_drew ?_ | refine blk_alloc ?_ _)); refine blk_far ?_ (by have h_ := Kd.R_away HO_10.out (fun _ hk => hk.2.1); intro e_; exact h_ (by rw [e_]; rfl)) _; (with_reducible repeat (first | refine blk_drewN ?_ _ | refine blk_drew ?_ | refine blk_alloc ?_ _)); exact BK330.out) hg (Kd.R_away HO_11.out (fun _ hk => hk.2.1))); have n4_ := Aside0.mk (blk_grown (g := gb331) (o := .cells #[.int .i64 t329] 3 (0, 0)) (by (with_reducible repeat (first | refine blk_drewN ?_ _ | refine blk_drew ?_ | refine blk_alloc ?_ _)); refine blk_far ?_ (by have h_ := Kd.R_away HO_10.out (fun _ hk => hk.2.2); intro e_; exact h_ (by rw [e_]; rfl)) _; (with_reducible repeat (first | refine blk_drewN ?_ _ | refine blk_drew ?_ | refine blk_alloc ?_ _)); exact BK331.out) hg (Kd.R_away HO_11.out (fun _ hk => hk.2.2))); have n5_ := Aside0.mk (hb); have n6_ := Aside0.mk (ho); clear HO_7; clear HO_10; clear BK323; clear BK330; clear BK331; clear HB; clear HO_11; have HO_7 := n0_; have HO_10 := n1_; have BK323 := n2_; have BK330 := n3_; have BK331 := n4_; have HB := n5_; have HO344 := n6_; clear n0_ n1_ n2_ n3_ n4_ n5_ n6_; clear ho hb hg hat; have p345 : 0 ≤ (x39_1 : Int) := of_decide_eq_true (by first | (with_reducible assumption) | assumption); have q345 : x39_1 < (y341.length : Int) := (by have h_ : (x39_1 : Int) < ((x10_1.length : Int) : Int) := of_decide_eq_true (by first | (with_reducible assumption) | assumption); first | (have e_ := (Kd.R_reads' HO_10.out).1; omega) | simpa only [Ny341.out, List.length_set] using h_); have ql345 : ((x39_1 : Int) < ((x10_1.length : Int) : Int)) = True := eq_true (of_decide_eq_true (by first | (with_reducible assumption) | assumption)); obtain ⟨ad345, e345, hx345_0⟩ := Kd.at_int (Kd.R_reads' HO_10.out).2.2 x39_1 p345 q345; obtain rfl : (⟨go42, 0, none⟩ : Addr) = ad345 := (by injection e345); (first | simp only [add_plain] at hx345_0 | simp only [add_at] at hx345_0 | simp only [Addr.add, Nat.zero_add] at hx345_0 | skip); replace p345 := eq_true p345; replace q345 := eq_true q345))
               (try simp only [← hl10_1])
               (first | go_roundg k1 | (simp only [add_plain] at *; go_roundg k1))
               case measure => have := HK1.out; omega
               case rel => exact ⟨(y341), (y342), (wrap64 (x12_1 - (rd y341 x39_1))), (wrap64 (x39_1 + 1)), (by first | rfl | (simp; done) | (simp [*]; done)), (by first | rfl | (simp; done) | (simp [*]; done)), H', ⟨by have := HK1.out; omega⟩, ⟨by (try simp only [hl10_1]); (with_reducible repeat (first | apply Kd.R_alloc | apply Kd.R_drewN | apply Kd.R_drew)); exact HO_7.out⟩, ⟨by (try simp only [hl10_1]); (with_reducible repeat (first | apply Kd.R_alloc | apply Kd.R_drewN | apply Kd.R_drew)); exact Kd.R_mono HO_10.out (fun _ hk => ⟨hk.2, ⟨hk.1.1, hk.1.2⟩⟩)⟩, ⟨by (try simp only [hl10_1]); (with_reducible repeat (first | apply Kd.R_alloc | apply Kd.R_drewN | apply Kd.R_drew)); exact HO344.out⟩, ⟨by (try simp only [hl10_1]); (with_reducible repeat (first | refine blk_drewN ?_ _ | refine blk_drew ?_ | refine blk_alloc ?_ _)); exact BK323.out⟩, ⟨by (try simp only [hl10_1]); (with_reducible repeat (first | refine blk_drewN ?_ _ | refine blk_drew ?_ | refine blk_alloc ?_ _)); exact BK330.out⟩, ⟨by (try simp only [hl10_1]); (with_reducible repeat (first | refine blk_drewN ?_ _ | refine blk_drew ?_ | refine blk_alloc ?_ _)); exact BK331.out⟩, ⟨by repeat (first | (with_reducible first | exact HB.out | apply below_alloc | apply pw_below_drewN | apply below_drew1 | refine below_set ?_ GE323.out | refine below_set ?_ GE330.out | refine below_set ?_ GE331.out) | exact HB.out)⟩⟩
              ·rw [if_neg c43] at H
               exact absurd H (by simp)
             ·rw [if_neg c41] at H
              exact absurd H (by simp)
           ·rw [if_neg c39] at H
            have c39b0 : decide (0 < (rd l0 x39_1)) = false := decide_eq_false c39
            clear c39
            by_cases c50 : x39_1 < (x10_1.length : Int)
            ·rw [if_pos c50] at H
             have c50b0 : decide (x39_1 < (x10_1.length : Int)) = true := decide_eq_true c50
             have c50b0z := c50b0
             (try simp only [hl10_1] at c50b0z)
             clear c50
             have H' := Aside0.mk H
             clear H
             have p335 : 0 ≤ (x39_1 : Int) := of_decide_eq_true (by first | (with_reducible assumption) | assumption)
             have q335 : x39_1 < (t325.length : Int) := of_decide_eq_true (by first | (with_reducible assumption) | assumption)
             obtain ⟨ad335, e335, hx335_0⟩ := Kd.at_bool (Kd.R_reads' HO_7.out).2.2 x39_1 p335 q335
             (try rw [← Nbq31.out] at hx335_0)
             cases e335
             replace p335 := eq_true p335
             replace q335 := eq_true q335
             have hnb51 := NB323_330.out
             have hnc51 := NB330_323.out
             have hnb52 := NB323_331.out
             have hnc52 := NB331_323.out
             have hcz53_0 : wr.cell? ⟨gb323, 0, none⟩ = some (.slice A0 l0.length c0) := (blk_cell BK323.out 0).trans rfl
             have hfz53_0 := blk_frozen BK323.out 0
             have p339 : 0 ≤ (x39_1 : Int) := of_decide_eq_true (by first | (with_reducible assumption) | assumption)
             have q339 : x39_1 < (l0.length : Int) := of_decide_eq_true (by first | (with_reducible assumption) | assumption)
             obtain ⟨ad339, e339, hx339_0⟩ := Kd.at_int HR0.out x39_1 p339 q339
             cases e339
             replace hx339_0 := (HB.out.cell (World.block_lt_of_cell? w _ hx339_0)).trans hx339_0
             replace p339 := eq_true p339
             replace q339 := eq_true q339
             have p346 : 0 ≤ (x39_1 : Int) := of_decide_eq_true (by first | (with_reducible assumption) | assumption)
             have q346 : x39_1 < (x10_1.length : Int) := of_decide_eq_true (by first | (with_reducible assumption) | assumption)
             obtain ⟨ad346, e346, hx346_0⟩ := Kd.at_int (Kd.R_reads' HO_10.out).2.2 x39_1 p346 q346
             cases e346
             replace p346 := eq_true p346
             replace q346 := eq_true q346
             go_wp2
             (try simp only [← hl10_1])
             (first | go_roundg k1 | (simp only [add_plain] at *; go_roundg k1))
             case measure => have := HK1.out; omega
             case rel => exact ⟨(x10_1), (x11_1), (wrap64 (x12_1 - (rd x10_1 x39_1))), (wrap64 (x39_1 + 1)), (by first | rfl | (simp; done) | (simp [*]; done)), (by first | rfl | (simp; done) | (simp [*]; done)), H', ⟨by have := HK1.out; omega⟩, ⟨by (try simp only [hl10_1]); (with_reducible repeat (first | apply Kd.R_alloc | apply Kd.R_drewN | apply Kd.R_drew)); exact HO_7.out⟩, ⟨by (try simp only [hl10_1]); (with_reducible repeat (first | apply Kd.R_alloc | apply Kd.R_drewN | apply Kd.R_drew)); exact HO_10.out⟩, ⟨by (try simp only [hl10_1]); (with_reducible repeat (first | apply Kd.R_alloc | apply Kd.R_drewN | apply Kd.R_drew)); exact HO_11.out⟩, ⟨by (try simp only [hl10_1]); (with_reducible repeat (first | refine blk_drewN ?_ _ | refine blk_drew ?_ | refine blk_alloc ?_ _)); exact BK323.out⟩, ⟨by (try simp only [hl10_1]); (with_reducible repeat (first | refine blk_drewN ?_ _ | refine blk_drew ?_ | refine blk_alloc ?_ _)); exact BK330.out⟩, ⟨by (try simp only [hl10_1]); (with_reducible repeat (first | refine blk_drewN ?_ _ | refine blk_drew ?_ | refine blk_alloc ?_ _)); exact BK331.out⟩, ⟨by repeat (first | (with_reducible first | exact HB.out | apply below_alloc | apply pw_below_drewN | apply below_drew1 | refine below_set ?_ GE323.out | refine below_set ?_ GE330.out | refine below_set ?_ GE331.out) | exact HB.out)⟩⟩
            ·rw [if_neg c50] at H
             exact absurd H (by simp)
          ·rw [if_neg c38] at H
           exact absurd H (by simp)
        ·rw [if_neg c30] at H
         exact absurd H (by simp)
       ·rw [if_neg c29] at H
        exact absurd H (by simp)
      ·rw [if_neg c28] at H
       have c28b0 : decide (x39_1 < (y332.length : Int)) = false := decide_eq_false c28
       have c28b0z := c28b0
       (try simp only [hl10_1] at c28b0z)
       clear c28
       replace H := Option.bind_eq_some_iff.mp H
       obtain ⟨t347, A540, H⟩ := H
       replace H : (if 0 ≤ (mx 0 (mn x12_1 (x11_1.length : Int))) then (if (mx 0 (mn x12_1 (x11_1.length : Int))) ≤ (x11_1.length : Int) then ((some (t347.take ((mx 0 (mn x12_1 (x11_1.length : Int))) : Int).toNat : List Int)).bind fun y348 => (impl_DealOf.l1 k1 x10_1 y348 (y348.length : Int) 0)) else (none)) else (none)) = some r := H
       have A54 := Aside0.mk A540
       clear A540
       obtain ⟨ji55, hji55⟩ : ∃ j_ : Int, (mn x12_1 (x11_1.length : Int)) = j_ := ⟨_, rfl⟩
       replace H : (if 0 ≤ (mx 0 (ji55)) then (if (mx 0 (ji55)) ≤ (x11_1.length : Int) then ((some (t347.take ((mx 0 (ji55)) : Int).toNat : List Int)).bind fun y348 => (impl_DealOf.l1 k1 x10_1 y348 (y348.length : Int) 0)) else (none)) else (none)) = some r := by first | (rw [hji55] at H; exact H) | (simp only [hji55] at H ⊢; exact H)
       (try rw [hji55] at A54)
       have hji55_ : (if (x11_1.length : Int) < x12_1 then (x11_1.length : Int) else x12_1) = ji55 := hji55
       obtain ⟨ji56, hji56⟩ : ∃ j_ : Int, (mx 0 (ji55)) = j_ := ⟨_, rfl⟩
       replace H : (if 0 ≤ (ji56) then (if (ji56) ≤ (x11_1.length : Int) then ((some (t347.take ((ji56) : Int).toNat : List Int)).bind fun y348 => (impl_DealOf.l1 k1 x10_1 y348 (y348.length : Int) 0)) else (none)) else (none)) = some r := by first | (rw [hji56] at H; exact H) | (simp only [hji56] at H ⊢; exact H)
       (try rw [hji56] at A54)
       have hji56_ : (if 0 < (ji55) then (ji55) else 0) = ji56 := hji56
       by_cases c57 : 0 ≤ (ji56)
       ·rw [if_pos c57] at H
        have c57b0 := eq_true c57
        have c57b1 : decide (0 ≤ (ji56)) = true := decide_eq_true c57
        clear c57
        by_cases c58 : (ji56) ≤ (x11_1.length : Int)
        ·rw [if_pos c58] at H
         have c58b0 := eq_true c58
         have c58b1 : decide ((ji56) ≤ (x11_1.length : Int)) = true := decide_eq_true c58
         have c58b1z := c58b1
         (try simp only [hl10_1] at c58b1z)
         clear c58
         obtain ⟨y348, hy348⟩ : ∃ y_ : List Int, y_ = (t347.take ((ji56) : Int).toNat) := ⟨_, rfl⟩
         replace H : (impl_DealOf.l1 k1 x10_1 y348 (y348.length : Int) 0) = some r := by first | (rw [hy348]; with_reducible exact H) | (have H2_ := (Option.bind_some _ _).symm.trans H; rw [hy348]; with_reducible exact H2_) | (have H2_ := (Option.bind_some _ _).symm.trans H; with_reducible exact H2_) | with_reducible exact H | (rw [hy348]; exact H) | exact H
         have Ny348 := Aside0.mk hy348
         clear hy348
         have H' := Aside0.mk H
         clear H
         obtain ⟨Ao59, co59, eo59⟩ := Kd.R_slice HO_11.out
         subst eo59
         go_wp2_with (first | ((with_reducible refine gate_callee (f := 50) rfl ?_); refine goesL_ (some 84) rfl rfl Try.func50 (by kernel_rfl) rfl #[.slice Ao59 x11_1.length co59, .func (.func 51) #[] #[.pointer (some ⟨gb330, 0, none⟩), .pointer (some ⟨gb323, 0, none⟩), .pointer (some ⟨gb331, 0, none⟩)]] rfl (by (try simp only [List.map_toArray, List.map_cons, List.map_nil]); first | done | rfl | (simp only [List.length_drop, List.length_take]; rfl)) ?_; (with_reducible refine (hof_DealOf.calls (fun k_ => some k_ = (.slice Ao59 x11_1.length co59 : Value).ownBlock) (.slice Ao59 x11_1.length co59) x11_1 t328 _ _ l0 t329 _ _ _ t347 w _ ?side1 ?side2 ?side3 ?side4 (by exact (by (with_reducible repeat (first | refine blk_drewN ?_ _ | refine blk_drew ?_ | refine blk_alloc ?_ _)); exact BK330.out)) (Kd.R_away HO_11.out (fun _ hk => hk.2.1)) (by exact (by (with_reducible repeat (first | refine blk_drewN ?_ _ | refine blk_drew ?_ | refine blk_alloc ?_ _)); exact BK323.out)) (Kd.R_ne HO_11.out BK323.out (by decide)) (by exact (by (with_reducible repeat (first | refine blk_drewN ?_ _ | refine blk_drew ?_ | refine blk_alloc ?_ _)); exact BK331.out)) (Kd.R_away HO_11.out (fun _ hk => hk.2.2)) A54.out).mono ?_); (case side1 => repeat (first | (with_reducible first | exact HB.out | apply below_alloc | apply pw_below_drewN | apply below_drew1 | refine below_set ?_ GE323.out | refine below_set ?_ GE330.out | refine below_set ?_ GE331.out) | exact HB.out)); (case side2 => exact Kd.R_tight rfl HO_11.out); (case side3 => exact Kd.C_kept_came (Kd.heap_int .i64) HR0.out (by repeat (first | (with_reducible first | exact HB.out | apply below_alloc | apply pw_below_drewN | apply below_drew1 | refine below_set ?_ GE323.out | refine below_set ?_ GE330.out | refine below_set ?_ GE331.out) | exact HB.out)) (fun k_ hs_ => (fun e_ => Kd.R_base HO_11.out k_ e_.symm) hs_)); (case side4 => exact HC0.out); rintro e w60 ⟨rfl, hy0, hb, hkp⟩; refine ⟨_, rfl, ?_⟩; have n0_ := Aside0.mk (Kd.R_mono (ok' := fun k_ => True) (Kd.R_keptB ((Kd.R_apart' HO_7.out (Kd.R_typed HO_11.out) (by decide))) hkp (fun k_ hk_ hs_ => (hk_.2) hs_)) (fun k_ hk_ => trivial)); have n1_ := Aside0.mk (Kd.R_mono (ok' := fun k_ => some k_ ≠ (.slice Ao59 x11_1.length co59 : Value).ownBlock ∧ k_ ≠ gb330 ∧ k_ ≠ gb331) (Kd.R_keptB (HO_10.out) hkp (fun k_ hk_ hs_ => (hk_.1) hs_)) (fun k_ hk_ => ⟨hk_.1.1, hk_.1.2.1, hk_.1.2.2⟩)); have n2_ := Aside0.mk (Kd.R_reok rfl hy0 (fun k_ e_ => HO_11.out.1 k_ e_)); have n3_ := Aside0.mk (blk_kept (by (with_reducible repeat (first | refine blk_drewN ?_ _ | refine blk_drew ?_ | refine blk_alloc ?_ _)); exact BK323.out) hkp (fun hs_ => (fun e_ => (Kd.R_ne HO_11.out BK323.out (by decide)) e_) hs_)); have n4_ := Aside0.mk (blk_kept (by (with_reducible repeat (first | refine blk_drewN ?_ _ | refine blk_drew ?_ | refine blk_alloc ?_ _)); exact BK330.out) hkp (fun hs_ => (fun e_ => (Kd.R_away HO_11.out (fun _ hk => hk.2.1)) e_) hs_)); have n5_ := Aside0.mk (blk_kept (by (with_reducible repeat (first | refine blk_drewN ?_ _ | refine blk_drew ?_ | refine blk_alloc ?_ _)); exact BK331.out) hkp (fun hs_ => (fun e_ => (Kd.R_away HO_11.out (fun _ hk => hk.2.2)) e_) hs_)); have n6_ := Aside0.mk (hb); clear HO_7; clear HO_10; clear HO_11; clear BK323; clear BK330; clear BK331; clear HB; have HO_7 := n0_; have HO_10 := n1_; have HO_11 := n2_; have BK323 := n3_; have BK330 := n4_; have BK331 := n5_; have HB := n6_; clear n0_ n1_ n2_ n3_ n4_ n5_ n6_; (try clear hb); (try clear hkp); (try clear hy0); have q61 : ((ji56) : Int) ≤ ((x11_1.length : Int) : Int) := of_decide_eq_true (by first | (with_reducible assumption) | assumption); obtain ⟨i061, hi061, _, hsz61, _⟩ := info_parts info3; have hcut61 := cut_to (P := Try.prog) 24 3 .i64 Try.underlying24 hi061 Ao59 x11_1.length co59 (ji56) (of_decide_eq_true (by first | (with_reducible assumption) | assumption)) q61 (Kd.R_reads' HO_11.out).2.1; have hl_ := (Kd.R_reads' HO_11.out).1; have hr61 := Kd.R_take (m := ((ji56) : Int).toNat) HO_11.out (by omega); have hy61 : y348.length = ((ji56) : Int).toNat := (by rw [Ny348.out, List.length_take]; omega); rw [← Ny348.out] at hr61; rw [← hy61] at hr61 hcut61; clear hl_ hy61 hi061 hsz61 HO_11; have HO350 := Aside0.mk hr61; clear hr61; have ow_ : (.slice Ao59 x11_1.length co59 : Value).ownBlock = (.slice Ao59 y348.length co59 : Value).ownBlock := (by cases Ao59 <;> rfl); (try rw [ow_] at HO_10); (try rw [ow_] at HO_7); clear ow_; replace q61 := eq_true q61))
         go_loopg [93] k1 (fun kq v93 w' => ∃ (x10_2 : List Int) (x93_2 : Int), v93 = .int .i64 x93_2 ∧ Aside0 (impl_DealOf.l1 kq x10_2 y348 (y348.length : Int) x93_2 = some r) ∧ Aside0 (kq ≤ k1) ∧ Aside0 (Kd.R (Kd.int .i64) 3 w' w.heap.size (fun k_ => some k_ ≠ ((.slice Ao59 y348.length co59) : Value).ownBlock ∧ k_ ≠ gb330 ∧ k_ ≠ gb331) (.slice Ao27 x10_1.length co27) x10_2) ∧ Aside0 (Kd.R (Kd.int .i64) 3 w' w.heap.size (fun k_ => some k_ ≠ ((.slice Ao27 x10_1.length co27) : Value).ownBlock ∧ k_ ≠ gb330 ∧ k_ ≠ gb331) (.slice Ao59 y348.length co59) y348) ∧ Aside0 (w'.heap[gb323]? = some (.cells #[(.slice A0 l0.length c0)] 24 (0, 0))) ∧ Aside0 (w'.heap[gb330]? = some (.cells #[.int .i64 t328] 3 (0, 0))) ∧ Aside0 (w'.heap[gb331]? = some (.cells #[.int .i64 t329] 3 (0, 0))) ∧ Aside0 (Below w.heap.size w w'))
         case atStart => exact ⟨(x10_1), (0), (by first | rfl | (simp; done) | (simp [*]; done)), H', ⟨Nat.le_refl _⟩, ⟨by (try simp only [hl10_1]); (with_reducible repeat (first | apply Kd.R_alloc | apply Kd.R_drewN | apply Kd.R_drew)); exact HO_10.out⟩, ⟨by (try simp only [hl10_1]); (with_reducible repeat (first | apply Kd.R_alloc | apply Kd.R_drewN | apply Kd.R_drew)); exact HO350.out⟩, ⟨by (try simp only [hl10_1]); (with_reducible repeat (first | refine blk_drewN ?_ _ | refine blk_drew ?_ | refine blk_alloc ?_ _)); exact BK323.out⟩, ⟨by (try simp only [hl10_1]); (with_reducible repeat (first | refine blk_drewN ?_ _ | refine blk_drew ?_ | refine blk_alloc ?_ _)); exact BK330.out⟩, ⟨by (try simp only [hl10_1]); (with_reducible repeat (first | refine blk_drewN ?_ _ | refine blk_drew ?_ | refine blk_alloc ?_ _)); exact BK331.out⟩, ⟨by repeat (first | (with_reducible first | exact HB.out | apply below_alloc | apply pw_below_drewN | apply below_drew1 | refine below_set ?_ GE323.out | refine below_set ?_ GE330.out | refine below_set ?_ GE331.out) | exact HB.out)⟩⟩
         case round =>
          clear H'
          try clear c1
          try clear c2
          try clear p2
          try clear c3
          try clear p3
          try clear q3
          try clear hx3
          try clear hf3
          try clear c4
          try clear p4
          try clear q4
          try clear hx4
          try clear hf4
          try clear c5
          try clear p6
          try clear q6
          try clear c8
          try clear c8b0
          try clear c8b1
          try clear c9
          try clear c9b0
          try clear c9b1
          try clear c19
          try clear c20
          try clear c22
          try clear c28
          try clear c28b0
          try clear c29
          try clear c29b0
          try clear c30
          try clear c30b0
          try clear q31
          try clear c32
          try clear c33
          try clear c33b0
          try clear p33
          try clear q33
          try clear hx33
          try clear c34
          try clear c34b0
          try clear p34
          try clear q34
          try clear hx34
          try clear p35
          try clear q35
          try clear hx35
          try clear hf35
          try clear c38
          try clear c38b0
          try clear c39
          try clear c39b0
          try clear c40
          try clear c40b0
          try clear c40b1
          try clear c41
          try clear c41b0
          try clear p42
          try clear q42
          try clear hx42
          try clear hf42
          try clear c43
          try clear c44
          try clear c45
          try clear c47
          try clear c48
          try clear c49
          try clear c50
          try clear c50b0
          try clear c51
          try clear c52
          try clear c57
          try clear c57b0
          try clear c57b1
          try clear c58
          try clear c58b0
          try clear c58b1
          try clear q61
          try clear hcz11_0
          try clear hcz13_0
          try clear hcz15_0
          try clear hcz21_0
          try clear hcz23_0
          try clear hcz24_0
          try clear hcz46_0
          try clear hcz53_0
          try clear hfz11_0
          try clear hfz13_0
          try clear hfz15_0
          try clear hfz21_0
          try clear hfz23_0
          try clear hfz24_0
          try clear hfz46_0
          try clear hfz53_0
          try clear hx335_0
          try clear hx336_0
          try clear hx338_0
          try clear hx339_0
          try clear hx340_0
          try clear hx345_0
          try clear hx346_0
          try clear hx35_0
          try clear hx42_0
          try clear p2
          try clear p335
          try clear p336
          try clear p338
          try clear p339
          try clear p340
          try clear p345
          try clear p346
          try clear p35
          try clear p42
          try clear q335
          try clear q336
          try clear q338
          try clear q339
          try clear q340
          try clear q345
          try clear q346
          try clear q35
          try clear q42
          try clear q61
          obtain ⟨x10_2, x93_2, rfl, HA, HK2, HO_10, HO_91, BK323, BK330, BK331, HB⟩ := hrel
          have hl10_2 := (Kd.R_reads' HO_10.out).1
          rw [hl10_2] at HO_10
          (try simp only [hl10_2])
          (try simp only [hl10_2] at BK323)
          (try simp only [hl10_2] at BK330)
          (try simp only [hl10_2] at BK331)
          (try simp only [hl10_2] at HO_91)
          cases gk with
          | zero => exact absurd HA.out (by simp [impl_DealOf.l1])
          | succ k2 =>
           have H := HA.out
           clear HA
           simp only [impl_DealOf.l1] at H
           by_cases c62 : x93_2 < (y348.length : Int)
           ·rw [if_pos c62] at H
            have c62b0 : decide (x93_2 < (y348.length : Int)) = true := decide_eq_true c62
            have c62b0z := c62b0
            (try simp only [hl10_1, hl10_2] at c62b0z)
            clear c62
            by_cases c63 : 0 ≤ x93_2
            ·rw [if_pos c63] at H
             have c63b0 : decide (0 ≤ x93_2) = true := decide_eq_true c63
             clear c63
             by_cases c64 : x93_2 < (y348.length : Int)
             ·rw [if_pos c64] at H
              have c64b0 : decide (x93_2 < (y348.length : Int)) = true := decide_eq_true c64
              have c64b0z := c64b0
              (try simp only [hl10_1, hl10_2] at c64b0z)
              clear c64
              by_cases c65 : 0 ≤ (rd y348 x93_2)
              ·rw [if_pos c65] at H
               have c65b0 : decide (0 ≤ (rd y348 x93_2)) = true := decide_eq_true c65
               clear c65
               by_cases c66 : (rd y348 x93_2) < (x10_2.length : Int)
               ·rw [if_pos c66] at H
                have c66b0 : decide ((rd y348 x93_2) < (x10_2.length : Int)) = true := decide_eq_true c66
                have c66b0z := c66b0
                (try simp only [hl10_1, hl10_2] at c66b0z)
                clear c66
                obtain ⟨y353, hy353⟩ : ∃ y_ : List Int, y_ = (x10_2.set ((rd y348 x93_2) : Int).toNat (wrap64 ((rd x10_2 (rd y348 x93_2)) + 1))) := ⟨_, rfl⟩
                replace H : (impl_DealOf.l1 k2 y353 y348 (y348.length : Int) (wrap64 (x93_2 + 1))) = some r := by first | (rw [hy353]; with_reducible exact H) | (have H2_ := (Option.bind_some _ _).symm.trans H; rw [hy353]; with_reducible exact H2_) | (have H2_ := (Option.bind_some _ _).symm.trans H; with_reducible exact H2_) | with_reducible exact H | (rw [hy353]; exact H) | exact H
                have Ny353 := Aside0.mk hy353
                clear hy353
                have H' := Aside0.mk H
                clear H
                have p351 : 0 ≤ (x93_2 : Int) := of_decide_eq_true (by first | (with_reducible assumption) | assumption)
                have q351 : x93_2 < (y348.length : Int) := of_decide_eq_true (by first | (with_reducible assumption) | assumption)
                obtain ⟨ad351, e351, hx351_0⟩ := Kd.at_int (Kd.R_reads' HO_91.out).2.2 x93_2 p351 q351
                cases e351
                replace p351 := eq_true p351
                replace q351 := eq_true q351
                have p352 : 0 ≤ ((rd y348 x93_2) : Int) := of_decide_eq_true (by first | (with_reducible assumption) | assumption)
                have q352 : (rd y348 x93_2) < (x10_2.length : Int) := of_decide_eq_true (by first | (with_reducible assumption) | assumption)
                obtain ⟨ad352, e352, hx352_0⟩ := Kd.at_int (Kd.R_reads' HO_10.out).2.2 (rd y348 x93_2) p352 q352
                cases e352
                replace p352 := eq_true p352
                replace q352 := eq_true q352
                have p67 : 0 ≤ ((rd y348 x93_2) : Int) := of_decide_eq_true (by first | (with_reducible assumption) | assumption)
                have q67 : ((rd y348 x93_2) : Int) < ((x10_2.length : Int) : Int) := of_decide_eq_true (by first | (with_reducible assumption) | assumption)
                obtain ⟨go67, co67, eo67, gb67, gl67, cl67, HG67⟩ := Kd.R_form HO_10.out (by omega)
                (first | cases eo67 | (injection eo67 with ea_ en_ ec_; (first | subst ea_ | (injection ea_ with ea_; subst ea_)); subst ec_; clear en_))
                have GB67 := Aside0.mk gb67
                have GG67 := Aside0.mk HG67
                clear gb67 gl67 HG67
                (first | simp only [add_plain] at hx352_0 | skip)
                obtain ⟨hx67_0, hf67_0⟩ := Kd.R_celln 0 HO_10.out ((rd y348 x93_2) : Int) p67 q67
                replace p67 := eq_true p67
                replace q67 := eq_true q67
                have HP68 := Kd.R_putg HO_10.out ((rd y348 x93_2) : Int) (wrap64 ((rd x10_2 (rd y348 x93_2)) + 1))
                go_wp2_with (first | ((with_reducible refine gate_store (t := 3) (p := 102) rfl ?_); refine store_event (t := 3) (p := 102) (v := ?vo_w69) (w1 := (wr.setCell ⟨go67, ((rd y348 x93_2) : Int).toNat, none⟩ (.int .i64 (wrap64 ((rd x10_2 (rd y348 x93_2)) + 1))))) ?hg ?ho ?hn ?hr ?_; (case ho => rfl); (case hg => rfl); (case hn => rfl); (case hr => first | (go_simp; done) | (go_simp; rfl)); intro w69 hw; have hg : wr.grownBy w69 (some go67) := (by rw [hw]; exact HP68.2); have hp_ : Kd.R (Kd.int .i64) 3 w69 w.heap.size (fun k_ => some k_ ≠ (.slice (some ad351) y348.length co59 : Value).ownBlock ∧ k_ ≠ gb330 ∧ k_ ≠ gb331) (.slice (some ⟨go67, 0, none⟩) x10_2.length co27) y353 := (by rw [hw, Ny353.out]; exact HP68.1); clear HP68; have n0_ := Aside0.mk (hp_); have n1_ := Aside0.mk (Kd.R_after (v := (.slice (some ⟨go67, 0, none⟩) x10_2.length co27)) (v1 := (.slice (some ⟨go67, 0, none⟩) x10_2.length co27)) (ok := (fun k_ => k_ ≠ gb330 ∧ k_ ≠ gb331)) (uR (Kd.R_mono HO_91.out (fun _ hk => ⟨⟨hk.2.1, hk.2.2⟩, hk.1⟩))) hg (.inl rfl)); have n2_ := Aside0.mk (blk_grown (g := gb323) (o := .cells #[.slice A0 l0.length c0] 24 (0, 0)) (by (with_reducible repeat (first | refine blk_drewN ?_ _ | refine blk_drew ?_ | refine blk_alloc ?_ _)); exact BK323.out) hg (Kd.R_ne HO_10.out BK323.out (by decide))); have n3_ := Aside0.mk (blk_grown (g := gb330) (o := .cells #[.int .i64 t328] 3 (0, 0)) (by (with_reducible repeat (first | refine blk_drewN ?_ _ | refine blk_drew ?_ | refine blk_alloc ?_ _)); exact BK330.out) hg (Kd.R_away HO_10.out (fun _ hk => hk.2.1))); have n4_ := Aside0.mk (blk_grown (g := gb331) (o := .cells #[.int .i64 t329] 3 (0, 0)) (by (with_reducible repeat (first | refine blk_drewN ?_ _ | refine blk_drew ?_ | refine blk_alloc ?_ _)); exact BK331.out) hg (Kd.R_away HO_10.out (fun _ hk => hk.2.2))); have n5_ := Aside0.mk ((by rw [hw]; exact below_set (HB.out) GB67.out : Below w.heap.size w w69)); clear HO_10; clear HO_91; clear BK323; clear BK330; clear BK331; clear HB; have HO_10 := n0_; have HO_91 := n1_; have BK323 := n2_; have BK330 := n3_; have BK331 := n4_; have HB := n5_; clear n0_ n1_ n2_ n3_ n4_ n5_; clear hg hw hp_))
                (try simp only [← hl10_2])
                (first | go_roundg k2 | (simp only [add_plain] at *; go_roundg k2))
                case measure => have := HK1.out; have := HK2.out; omega
                case rel => exact ⟨(y353), (wrap64 (x93_2 + 1)), (by first | rfl | (simp; done) | (simp [*]; done)), H', ⟨by have := HK1.out; have := HK2.out; omega⟩, ⟨by (try simp only [hl10_1]); (try simp only [hl10_2]); (with_reducible repeat (first | apply Kd.R_alloc | apply Kd.R_drewN | apply Kd.R_drew)); exact HO_10.out⟩, ⟨by (try simp only [hl10_1]); (try simp only [hl10_2]); (with_reducible repeat (first | apply Kd.R_alloc | apply Kd.R_drewN | apply Kd.R_drew)); exact Kd.R_mono HO_91.out (fun _ hk => ⟨hk.2, ⟨hk.1.1, hk.1.2⟩⟩)⟩, ⟨by (try simp only [hl10_1]); (try simp only [hl10_2]); (with_reducible repeat (first | refine blk_drewN ?_ _ | refine blk_drew ?_ | refine blk_alloc ?_ _)); exact BK323.out⟩, ⟨by (try simp only [hl10_1]); (try simp only [hl10_2]); (with_reducible repeat (first | refine blk_drewN ?_ _ | refine blk_drew ?_ | refine blk_alloc ?_ _)); exact BK330.out⟩, ⟨by (try simp only [hl10_1]); (try simp only [hl10_2]); (with_reducible repeat (first | refine blk_drewN ?_ _ | refine blk_drew ?_ | refine blk_alloc ?_ _)); exact BK331.out⟩, ⟨by repeat (first | (with_reducible first | exact HB.out | apply below_alloc | apply pw_below_drewN | apply below_drew1 | refine below_set ?_ GE323.out | refine below_set ?_ GE330.out | refine below_set ?_ GE331.out) | exact HB.out)⟩⟩
               ·rw [if_neg c66] at H
                exact absurd H (by simp)
              ·rw [if_neg c65] at H
               exact absurd H (by simp)
             ·rw [if_neg c64] at H
              exact absurd H (by simp)
            ·rw [if_neg c63] at H
             exact absurd H (by simp)
           ·rw [if_neg c62] at H
            have c62b0 : decide (x93_2 < (y348.length : Int)) = false := decide_eq_false c62
            have c62b0z := c62b0
            (try simp only [hl10_1, hl10_2] at c62b0z)
            clear c62
            obtain rfl := Option.some.inj H
            go_wp2
            go_ret
            exact ⟨_, by first | rfl | (simp [errW_none, errW_some] <;> rfl) | (simp only [← hji55, ← hji56]; first | rfl | (simp [errW_none, errW_some] <;> rfl)) | (simp [*, errW_none, errW_some] <;> rfl), by (with_reducible repeat (first | apply Kd.R_alloc | apply Kd.R_drewN | apply Kd.R_drew)); exact Kd.R_mono HO_10.out (fun _ hk => trivial), by repeat (first | (with_reducible first | exact HB.out | apply below_alloc | apply pw_below_drewN | apply below_drew1 | refine below_set ?_ GE323.out | refine below_set ?_ GE330.out | refine below_set ?_ GE331.out) | exact HB.out)⟩
        ·rw [if_neg c58] at H
         exact absurd H (by simp)
       ·rw [if_neg c57] at H
        exact absurd H (by simp)
   ·rw [if_neg c9] at H
    exact absurd H (by simp)
  ·rw [if_neg c8] at H
   exact absurd H (by simp)
 ·replace c5 := Bool.eq_false_iff.mpr c5
  subst c5
  have H1 : (some ([] : List Int)) = some r := by rw [if_neg (show ¬ (false = true) by decide)] at H; exact H
  clear H
  have H := H1
  clear H1
  obtain rfl := Option.some.inj H
  go_enter Try.func30, Try.ntmps30
  go_wp2_with (first | ((with_reducible refine gate_dst (N := 3) rfl ?_); refine box_event ?hg (N := 3) ?hd (cs := #[.slice A0 l0.length c0]) (t := 24) ?hr ?_; (case hd => rfl); (case hg => rfl); (case hr => first | (go_simp; done) | (go_simp; rfl)); intro gb323 hg w70 hbox hb; have n0_ := Aside0.mk (below_step (uB HB.out) hb); have n1_ := Aside0.mk (hbox); have n2_ := Aside0.mk ((by rw [hg]; exact (below_size (uB HB.out)) : w.heap.size ≤ gb323)); have n3_ := Aside0.mk ((by rw [hg]; exact (below_size (uB HB.out)) : w.heap.size ≤ gb323)); clear HB; have HB := n0_; have BK323 := n1_; have GW323 := n2_; have GE323 := n3_; clear n0_ n1_ n2_ n3_; clear hb hbox hg; have hcz71_0 : w70.cell? ⟨gb323, 0, none⟩ = some (.slice A0 l0.length c0) := (blk_cell BK323.out 0).trans rfl; have hfz71_0 := blk_frozen BK323.out 0) | ((with_reducible refine gate_callee (f := 47) rfl ?_); refine goesL_ (some 19) rfl rfl Try.func47 (by kernel_rfl) rfl #[.slice A0 l0.length c0, .slice A1 l1.length c1, .int .i64 a2] rfl (by (try simp only [List.map_toArray, List.map_cons, List.map_nil]); first | done | rfl | (simp only [List.length_drop, List.length_take]; rfl)) ?_; (with_reducible refine (impl_DealOk.calls k _ _ l0 _ _ l1 a2 false _ ?side1 ?side2 ?side3 ?side4 A4.out).mono ?_); (case side1 => repeat (first | exact (Kd.C_below HR0.out HB.out) | (with_reducible refine Kd.C_alloc ?_ _) | (with_reducible refine Kd.C_drewN ?_ _) | (with_reducible refine Kd.C_drew ?_))); (case side2 => exact HC0.out); (case side3 => repeat (first | exact (Kd.C_below HR1.out HB.out) | (with_reducible refine Kd.C_alloc ?_ _) | (with_reducible refine Kd.C_drewN ?_ _) | (with_reducible refine Kd.C_drew ?_))); (case side4 => exact HC1.out); rintro e w72 ⟨rfl, hb⟩; refine ⟨_, rfl, ?_⟩; have n0_ := Aside0.mk (blk_below (g := gb323) (o := .cells #[.slice A0 l0.length c0] 24 (0, 0)) (by (with_reducible repeat (first | refine blk_drewN ?_ _ | refine blk_drew ?_ | refine blk_alloc ?_ _)); exact BK323.out) hb); have n1_ := Aside0.mk (below_step (by repeat (first | (with_reducible first | exact HB.out | apply below_alloc | apply pw_below_drewN | apply below_drew1 | refine below_set ?_ GE323.out) | exact HB.out)) hb); clear BK323; clear HB; have BK323 := n0_; have HB := n1_; clear n0_ n1_; (try clear hb); (try clear hb2); (try clear hk); (try clear hi)))
  go_ret
  exact ⟨_, by first | rfl | (simp [errW_none, errW_some] <;> rfl) | (simp [*, errW_none, errW_some] <;> rfl), by first | exact Kd.R_nil _ _ _ _ _ | exact Kd.N_nil _ _ _ _ _ | exact Kd.V_nil _ _ _ _ _ | exact Kd.Q_nil _ _ _ _ _ | exact Kd.S_nil _ _ _ _ _, by repeat (first | (with_reducible first | exact HB.out | apply below_alloc | apply pw_below_drewN | apply below_drew1 | refine below_set ?_ GE323.out) | exact HB.out)⟩

end Go.Proofs.Ytannkhefallkhaa.Q
