/- The plain facts of this claim, in their order. -/
import Derived.Test.YtannkhefallkhaaQ0
import Derived.Test.YtannkhefallkhaaQ11
import Derived.Test.YtannkhefallkhaaQ6
import Derived.Test.YtannkhefallkhaaQ1
import Derived.Test.YtannkhefallkhaaQ2
import Derived.Test.YtannkhefallkhaaQ9
import Derived.Test.YtannkhefallkhaaQ8
import Derived.Test.YtannkhefallkhaaQ3
import Derived.Sort.LotA
import Derived.Test.YtannkhefallkhaaQ10
import Derived.Test.YtannkhefallkhaaQ4
import Derived.Test.YtannkhefallkhaaQ7
import Derived.Lib.SlicesCompact
import Derived.Test.YtannkhefallkhaaQ5
import Derived.Test.YtannkhefallkhaaQ12
import Derived.Test.YtannkhefallkhaaQ13
import Derived.Laws.Bits128
import Derived.Test.YtannkhefallkhaaQ14
set_option linter.unusedSimpArgs false
set_option linter.unusedSectionVars false
/- Plain facts that all the proofs share. -/
namespace Go.Proofs.Ytannkhefallkhaa.Pure
open Go.RowKit Go.Proofs.Ytannkhefallkhaa.Q Go.Proofs.YtannkhefallkhaaW.PrintWords Go.Proofs.YtannkhefallkhaaW.PrintLast

theorem w64 {x : Int} (h0 : -9223372036854775808 ≤ x) (h1 : x ≤ 9223372036854775807) : wrap64 x = x := by unfold wrap64; omega
theorem rd_nat (l : List Int) (i : Nat) : rd l (i : Int) = l.getD i 0 := by simp [rd]
theorem rd_get (l : List Int) (i : Nat) (h : i < l.length) : rd l (i : Int) = l[i] := by simp [rd, h]
theorem drop_cons {α : Type} (l : List α) (i : Nat) (h : i < l.length) : l.drop i = l[i] :: l.drop (i + 1) := List.drop_eq_getElem_cons h
def iota (m : Int) : Nat → List Int
 | 0 => []
 | d + 1 => m :: iota (m + 1) d
end Go.Proofs.Ytannkhefallkhaa.Pure
/- Plain facts about the law's helpers over whole numbers: what comparing answers. -/
namespace Go.Proofs.Ytannkhefallkhaa.Pure
open Go.RowKit Go.Proofs.Ytannkhefallkhaa.Q Go.Proofs.YtannkhefallkhaaW.PrintWords Go.Proofs.YtannkhefallkhaaW.PrintLast

end Go.Proofs.Ytannkhefallkhaa.Pure
/- Plain facts about the law's helpers over whole numbers: what copying answers. -/
namespace Go.Proofs.Ytannkhefallkhaa.Pure
open Go.RowKit Go.Proofs.Ytannkhefallkhaa.Q Go.Proofs.YtannkhefallkhaaW.PrintWords Go.Proofs.YtannkhefallkhaaW.PrintLast

end Go.Proofs.Ytannkhefallkhaa.Pure
/- A number between two others. -/
namespace Go.Proofs.Ytannkhefallkhaa.Pure
open Go.RowKit Go.Proofs.Ytannkhefallkhaa.Q Go.Proofs.YtannkhefallkhaaW.PrintWords Go.Proofs.YtannkhefallkhaaW.PrintLast
theorem l01In_eq (a b c : Int) : spec_l01In.f a b c = some (decide (b ≤ a ∧ a ≤ c)) := by
 unfold spec_l01In.f
 by_cases h : a ≥ b
 ·rw [if_pos h]; congr 1; exact decide_eq_decide.mpr ⟨fun h2 => ⟨h, h2⟩, fun h2 => h2.2⟩
 ·rw [if_neg h, decide_eq_false (fun h2 => h h2.1)]
end Go.Proofs.Ytannkhefallkhaa.Pure
/- Plain facts about deals: what DealOk answers; both functions add up the same rooms in the same order. -/
namespace Go.Proofs.Ytannkhefallkhaa.Pure
open Go.RowKit Go.Proofs.Ytannkhefallkhaa.Q Go.Proofs.YtannkhefallkhaaW.PrintWords Go.Proofs.YtannkhefallkhaaW.PrintLast
def Wants (l : List Int) : Bool := !(l.any impl_areWants.bad)
theorem implWants_eq (l : List Int) : impl_areWants.f l = some (Wants l) := rfl
theorem Wants_mem (l : List Int) (h : Wants l = true) : ∀ x ∈ l, 0 ≤ x ∧ x ≤ 10000 := by
 intro x hx
 have h3 : l.any impl_areWants.bad = false := by simpa [Wants] using h
 have := List.any_eq_false.mp h3 x hx
 unfold impl_areWants.bad at this
 simp at this
 omega
theorem Wants_of (l : List Int) (h : ∀ x ∈ l, 0 ≤ x ∧ x ≤ 10000) : Wants l = true := by
 unfold Wants
 rw [Bool.not_eq_true', List.any_eq_false]
 intro x hx
 have := h x hx
 unfold impl_areWants.bad
 simp
 omega
theorem specList_l0 (l : List Int) (hn : l.length ≤ 9223372036854775807) : ∀ (d i k : Nat), i + d = l.length → d < k → spec_l18List.l0 k l (i : Int) = some (Wants (l.drop i))
 | 0, i, k, hi, hk => by
  obtain ⟨k, rfl⟩ : ∃ m, k = m + 1 := ⟨k - 1, by omega⟩
  simp only [spec_l18List.l0]
  rw [if_neg (by omega), List.drop_of_length_le (by omega)]
  rfl
 | d + 1, i, k, hi, hk => by
  obtain ⟨k, rfl⟩ : ∃ m, k = m + 1 := ⟨k - 1, by omega⟩
  simp only [spec_l18List.l0]
  rw [if_pos (by omega), if_pos (by omega), rd_get l i (by omega), l01In_eq, Option.bind_some, w64 (by omega) (by omega), show ((i : Int) + 1) = ((i + 1 : Nat) : Int) by omega,
   specList_l0 l hn d (i + 1) k (by omega) (by omega), drop_cons l i (by omega)]
  unfold Wants
  rw [List.any_cons]
  unfold impl_areWants.bad
  by_cases h : 0 ≤ l[i]'(by omega) ∧ l[i]'(by omega) ≤ 10000
  ·rw [decide_eq_true h, if_pos rfl, decide_eq_false (by omega), decide_eq_false (by omega)]; rfl
  ·rw [decide_eq_false h, if_neg (by decide)]
   by_cases h1 : l[i]'(by omega) < 0
   ·rw [decide_eq_true h1]; rfl
   ·rw [decide_eq_false h1, decide_eq_true (by omega)]; rfl
theorem specList_eq (l : List Int) (hn : l.length ≤ 9223372036854775807) (k : Nat) (hk : l.length < k) : spec_l18List.f k l = some (Wants l) := by
 have := specList_l0 l hn l.length 0 k (by omega) hk
 simpa [spec_l18List.f] using this
def roomSum (w r : List Int) : Nat → Nat → Int → Int
 | 0, _, acc => acc
 | d + 1, i, acc => roomSum w r d (i + 1) (if rd w i > 0 then wrap64 (acc + rd r i) else acc)
def DOk (w r : List Int) (t : Int) : Bool := decide (w.length = r.length ∧ w.length ≤ 16 ∧ Wants w = true ∧ Wants r = true ∧ 0 ≤ t ∧ t ≤ roomSum w r w.length 0 0)
theorem specDeal_l0 (w r : List Int) (t : Int) (hl : w.length = r.length) (hn : w.length ≤ 16) : ∀ (d i k : Nat) (acc : Int), i + d = w.length → d < k → spec_DealOk.l0 k w r t acc (i : Int) = some (decide (0 ≤ t ∧ t ≤ roomSum w r d i acc))
 | 0, i, k, acc, hi, hk => by
  obtain ⟨k, rfl⟩ : ∃ m, k = m + 1 := ⟨k - 1, by omega⟩
  simp only [spec_DealOk.l0]
  rw [if_neg (by omega), l01In_eq]
  rfl
 | d + 1, i, k, acc, hi, hk => by
  obtain ⟨k, rfl⟩ : ∃ m, k = m + 1 := ⟨k - 1, by omega⟩
  simp only [spec_DealOk.l0]
  rw [if_pos (by omega), if_pos (by omega), w64 (x := (i : Int) + 1) (by omega) (by omega), show ((i : Int) + 1) = ((i + 1 : Nat) : Int) by omega, roomSum]
  by_cases h : rd w i > 0
  ·rw [if_pos h, if_pos (by omega), if_pos h]
   exact specDeal_l0 w r t hl hn d (i + 1) k _ (by omega) (by omega)
  ·rw [if_neg h, if_neg h]
   exact specDeal_l0 w r t hl hn d (i + 1) k _ (by omega) (by omega)
theorem implDeal_l0 (w r : List Int) (t : Int) (hl : w.length = r.length) (hn : w.length ≤ 16) : ∀ (d i k : Nat) (acc : Int), i + d = w.length → d < k → impl_DealOk.l0 k r t acc w (w.length : Int) (i : Int) = some (decide (0 ≤ t ∧ t ≤ roomSum w r d i acc))
 | 0, i, k, acc, hi, hk => by
  obtain ⟨k, rfl⟩ : ∃ m, k = m + 1 := ⟨k - 1, by omega⟩
  simp only [impl_DealOk.l0]
  rw [if_neg (by omega)]
  by_cases h : t ≥ 0
  ·rw [if_pos h]; congr 1; exact decide_eq_decide.mpr ⟨fun h2 => ⟨h, h2⟩, fun h2 => h2.2⟩
  ·rw [if_neg h, decide_eq_false (fun h2 => h h2.1)]
 | d + 1, i, k, acc, hi, hk => by
  obtain ⟨k, rfl⟩ : ∃ m, k = m + 1 := ⟨k - 1, by omega⟩
  simp only [impl_DealOk.l0]
  rw [if_pos (by omega), if_pos (by omega), if_pos (by omega), w64 (x := (i : Int) + 1) (by omega) (by omega), show ((i : Int) + 1) = ((i + 1 : Nat) : Int) by omega, roomSum]
  by_cases h : rd w i > 0
  ·rw [if_pos h, if_pos (by omega), if_pos h]
   exact implDeal_l0 w r t hl hn d (i + 1) k _ (by omega) (by omega)
  ·rw [if_neg h, if_neg h]
   exact implDeal_l0 w r t hl hn d (i + 1) k _ (by omega) (by omega)
theorem specDealOk_ev (w r : List Int) (t : Int) (hw : w.length ≤ 1048576) (hr : r.length ≤ 1048576) (k : Nat) (hk : w.length + r.length + 2 ≤ k) : spec_DealOk.f k w r t = some (DOk w r t) := by
 obtain ⟨k, rfl⟩ : ∃ m, k = m + 1 := ⟨k - 1, by omega⟩
 unfold spec_DealOk.f DOk
 by_cases h1 : w.length = r.length
 ·rw [if_pos (by omega)]
  by_cases h2 : w.length ≤ 16
  ·rw [if_neg (by omega), specList_eq w (by omega) _ (by omega), Option.bind_some]
   by_cases h3 : Wants w = true
   ·rw [if_pos h3, specList_eq r (by omega) _ (by omega), Option.bind_some]
    simp only [spec_DealOk.j0]
    by_cases h4 : Wants r = true
    ·rw [if_neg (by simp [h4])]
     have := specDeal_l0 w r t h1 h2 w.length 0 k 0 (by omega) (by omega)
     rw [show (0 : Int) = ((0 : Nat) : Int) from rfl] at this ⊢
     rw [this]
     congr 1
     exact decide_eq_decide.mpr ⟨fun h => ⟨h1, h2, h3, h4, h.1, h.2⟩, fun h => ⟨h.2.2.2.2.1, h.2.2.2.2.2⟩⟩
    ·rw [if_pos (by simpa using h4), decide_eq_false (fun h => h4 h.2.2.2.1)]
   ·rw [if_neg h3, decide_eq_false (fun h => h3 h.2.2.1)]
    simp [spec_DealOk.j0]
  ·rw [if_pos (by omega), decide_eq_false (fun h => h2 h.2.1)]
   simp [spec_DealOk.j0]
 ·rw [if_neg (by omega), decide_eq_false (fun h => h1 h.1)]
  simp [spec_DealOk.j0]
theorem implDealOk_ev (w r : List Int) (t : Int) (hw : w.length ≤ 1048576) (k : Nat) (hk : w.length + 2 ≤ k) : impl_DealOk.f k w r t = some (DOk w r t) := by
 obtain ⟨k, rfl⟩ : ∃ m, k = m + 1 := ⟨k - 1, by omega⟩
 unfold impl_DealOk.f DOk
 by_cases h1 : w.length = r.length
 ·rw [if_pos (by omega)]
  by_cases h2 : w.length ≤ 16
  ·rw [if_neg (by omega), implWants_eq, Option.bind_some]
   by_cases h3 : Wants w = true
   ·rw [if_pos h3, implWants_eq, Option.bind_some]
    simp only [impl_DealOk.j0]
    by_cases h4 : Wants r = true
    ·rw [if_neg (by simp [h4])]
     have := implDeal_l0 w r t h1 h2 w.length 0 k 0 (by omega) (by omega)
     rw [show (0 : Int) = ((0 : Nat) : Int) from rfl] at this ⊢
     rw [this]
     congr 1
     exact decide_eq_decide.mpr ⟨fun h => ⟨h1, h2, h3, h4, h.1, h.2⟩, fun h => ⟨h.2.2.2.2.1, h.2.2.2.2.2⟩⟩
    ·rw [if_pos (by simpa using h4), decide_eq_false (fun h => h4 h.2.2.2.1)]
   ·rw [if_neg h3, decide_eq_false (fun h => h3 h.2.2.1)]
    simp [impl_DealOk.j0]
  ·rw [if_pos (by omega), decide_eq_false (fun h => h2 h.2.1)]
   simp [impl_DealOk.j0]
 ·rw [if_neg (by omega), decide_eq_false (fun h => h1 h.1)]
  simp [impl_DealOk.j0]
end Go.Proofs.Ytannkhefallkhaa.Pure
/- Plain facts about which places of a deal are full: rounds in which all places are looked at, with what is left told once a round. -/
namespace Go.Proofs.Ytannkhefallkhaa.Pure
open Go.RowKit Go.Proofs.Ytannkhefallkhaa.Q Go.Proofs.YtannkhefallkhaaW.PrintWords Go.Proofs.YtannkhefallkhaaW.PrintLast
theorem rdOf_get (l : List Bool) (i : Nat) (h : i < l.length) : rdOf false l (i : Int) = l[i] := by simp [rdOf, h]
def restL (w r : List Int) (f : List Bool) : Nat → Nat → Int → Int → Int × Int
 | 0, _, t, s => (t, s)
 | d + 1, i, t, s => if rdOf false f i = true then restL w r f d (i + 1) (wrap64 (t - rd r i)) s else restL w r f d (i + 1) t (wrap64 (s + rd w i))
theorem specRest_l0 (w r : List Int) (f : List Bool) (hr : r.length = w.length) (hf : f.length = w.length) (hn : w.length ≤ 16) : ∀ (d i k : Nat) (t s : Int), i + d = w.length → d < k →
  spec_l18Rest.l0 k w r f t s (i : Int) = some (restL w r f d i t s)
 | 0, i, k, t, s, hi, hk => by
  obtain ⟨k, rfl⟩ : ∃ m, k = m + 1 := ⟨k - 1, by omega⟩
  simp only [spec_l18Rest.l0]
  rw [if_neg (by omega)]
  rfl
 | d + 1, i, k, t, s, hi, hk => by
  obtain ⟨k, rfl⟩ : ∃ m, k = m + 1 := ⟨k - 1, by omega⟩
  simp only [spec_l18Rest.l0]
  rw [if_pos (by omega), if_pos (by omega), if_pos (by omega), w64 (x := (i : Int) + 1) (by omega) (by omega), show ((i : Int) + 1) = ((i + 1 : Nat) : Int) by omega, restL]
  by_cases h : rdOf false f (i : Int) = true
  ·rw [if_pos h, if_pos (by omega), if_pos h]
   exact specRest_l0 w r f hr hf hn d (i + 1) k _ _ (by omega) (by omega)
  ·rw [if_neg h, if_neg h]
   exact specRest_l0 w r f hr hf hn d (i + 1) k _ _ (by omega) (by omega)
theorem implLeft_l0 (w r : List Int) (f : List Bool) (hr : r.length = w.length) (hf : f.length = w.length) (hn : w.length ≤ 16) : ∀ (d i k : Nat) (t s : Int), i + d = w.length → d < k →
  impl_left.l0 k w r t s f (f.length : Int) (i : Int) = some (restL w r f d i t s)
 | 0, i, k, t, s, hi, hk => by
  obtain ⟨k, rfl⟩ : ∃ m, k = m + 1 := ⟨k - 1, by omega⟩
  simp only [impl_left.l0]
  rw [if_neg (by omega)]
  rfl
 | d + 1, i, k, t, s, hi, hk => by
  obtain ⟨k, rfl⟩ : ∃ m, k = m + 1 := ⟨k - 1, by omega⟩
  simp only [impl_left.l0]
  rw [if_pos (by omega), if_pos (by omega), if_pos (by omega), w64 (x := (i : Int) + 1) (by omega) (by omega), show ((i : Int) + 1) = ((i + 1 : Nat) : Int) by omega, restL]
  by_cases h : rdOf false f (i : Int) = true
  ·rw [if_pos h, if_pos (by omega), if_pos h]
   exact implLeft_l0 w r f hr hf hn d (i + 1) k _ _ (by omega) (by omega)
  ·rw [if_neg h, if_pos (by omega), if_neg h]
   exact implLeft_l0 w r f hr hf hn d (i + 1) k _ _ (by omega) (by omega)
def turns (w r : List Int) (x d : Int) (f : List Bool) (i : Nat) : Bool := !(rdOf false f i) && (decide (rd w i > 0) && decide (wrap64 (x * rd w i) ≥ wrap64 (d * rd r i)))
def upd (w r : List Int) (x y : Int) : Nat → Nat → List Bool → List Bool
 | 0, _, f => f
 | d + 1, i, f => upd w r x y d (i + 1) (if turns w r x y f i = true then f.set i true else f)
def chg (w r : List Int) (x y : Int) : Nat → Nat → List Bool → Bool → Bool
 | 0, _, _, b => b
 | d + 1, i, f, b => chg w r x y d (i + 1) (if turns w r x y f i = true then f.set i true else f) (if turns w r x y f i = true then true else b)
theorem upd_length (w r : List Int) (x y : Int) : ∀ (d i : Nat) (f : List Bool), (upd w r x y d i f).length = f.length
 | 0, _, _ => rfl
 | d + 1, i, f => by
  unfold upd
  rw [upd_length w r x y d (i + 1)]
  split <;> simp
def round (w r : List Int) (t : Int) (f : List Bool) : List Bool := upd w r (restL w r f w.length 0 t 0).1 (restL w r f w.length 0 t 0).2 w.length 0 f
def rounds (w r : List Int) (t : Int) : Nat → List Bool → List Bool
 | 0, f => f
 | n + 1, f => rounds w r t n (round w r t f)
theorem round_length (w r : List Int) (t : Int) (f : List Bool) : (round w r t f).length = f.length := upd_length _ _ _ _ _ _ _
theorem rounds_length (w r : List Int) (t : Int) : ∀ (n : Nat) (f : List Bool), (rounds w r t n f).length = f.length
 | 0, _ => rfl
 | n + 1, f => by unfold rounds; rw [rounds_length w r t n, round_length]
theorem rounds_fix (w r : List Int) (t : Int) (f : List Bool) (h : round w r t f = f) : ∀ n, rounds w r t n f = f
 | 0 => rfl
 | n + 1 => by unfold rounds; rw [h]; exact rounds_fix w r t f h n
def count (f : List Bool) : Nat := (f.filter id).length
theorem count_le (f : List Bool) : count f ≤ f.length := List.length_filter_le _ _
theorem count_set : ∀ (f : List Bool) (i : Nat), i < f.length → f.getD i false = false → count (f.set i true) = count f + 1
 | [], i, h, _ => absurd h (Nat.not_lt_zero _)
 | b :: bs, 0, _, hb => by
  have : b = false := by simpa using hb
  subst this
  simp [count]
 | b :: bs, i + 1, h, hb => by
  have := count_set bs i (by simpa using h) (by simpa using hb)
  cases b <;> simp [count] at this ⊢ <;> omega
theorem turns_off (w r : List Int) (x y : Int) (f : List Bool) (i : Nat) (h : turns w r x y f i = true) : f.getD i false = false := by
 unfold turns at h
 rw [Bool.and_eq_true] at h
 have := h.1
 simpa [rdOf] using this
theorem chg_tells (w r : List Int) (x y : Int) : ∀ (d i : Nat) (f : List Bool) (b : Bool), i + d ≤ f.length →
  (chg w r x y d i f b = false → b = false ∧ upd w r x y d i f = f) ∧ count f ≤ count (upd w r x y d i f) ∧ (chg w r x y d i f b = true → b = true ∨ count f < count (upd w r x y d i f))
 | 0, i, f, b, _ => ⟨fun h => ⟨h, rfl⟩, Nat.le_refl _, fun h => .inl h⟩
 | d + 1, i, f, b, hl => by
  unfold chg upd
  by_cases h : turns w r x y f i = true
  ·simp only [if_pos h]
   have hc := count_set f i (by omega) (turns_off w r x y f i h)
   obtain ⟨h1, h2, h3⟩ := chg_tells w r x y d (i + 1) (f.set i true) true (by simp; omega)
   refine ⟨fun e => absurd (h1 e).1 (by decide), by omega, fun _ => .inr (by omega)⟩
  ·simp only [if_neg h]
   exact chg_tells w r x y d (i + 1) f b (by omega)
theorem specFull_l1 (w r : List Int) (t : Int) (hr : r.length = w.length) (hn : w.length ≤ 16) (n x y : Int) (K : Nat) (res : List Bool) : ∀ (d i k : Nat) (f : List Bool), i + d = w.length → f.length = w.length → K + d < k →
  (∀ k, K ≤ k → spec_FullIn.l0 k w r t (upd w r x y d i f) (wrap64 (n + 1)) = some res) → spec_FullIn.l1 k w r t f n x y (i : Int) = some res
 | 0, i, k, f, hi, hf, hk, h0 => by
  obtain ⟨k, rfl⟩ : ∃ m, k = m + 1 := ⟨k - 1, by omega⟩
  simp only [spec_FullIn.l1]
  rw [if_neg (by omega)]
  exact h0 k (by omega)
 | d + 1, i, k, f, hi, hf, hk, h0 => by
  obtain ⟨k, rfl⟩ : ∃ m, k = m + 1 := ⟨k - 1, by omega⟩
  simp only [spec_FullIn.l1]
  rw [if_pos (by omega), if_pos (by omega), if_pos (by omega), w64 (x := (i : Int) + 1) (by omega) (by omega), show ((i : Int) + 1) = ((i + 1 : Nat) : Int) by omega, Int.toNat_natCast]
  have hu : upd w r x y (d + 1) i f = upd w r x y d (i + 1) (if turns w r x y f i = true then f.set i true else f) := rfl
  rw [hu] at h0
  by_cases h1 : rdOf false f (i : Int) = true
  ·rw [if_pos h1]
   rw [if_neg (by simp [turns, h1])] at h0
   exact specFull_l1 w r t hr hn n x y K res d (i + 1) k f (by omega) hf (by omega) h0
  ·rw [if_neg h1]
   by_cases h2 : rd w (i : Int) > 0
   ·rw [if_pos h2, if_pos (by omega)]
    by_cases h3 : wrap64 (x * rd w (i : Int)) ≥ wrap64 (y * rd r (i : Int))
    ·rw [if_pos h3]
     rw [if_pos (by simp [turns, h1, h2, h3])] at h0
     exact specFull_l1 w r t hr hn n x y K res d (i + 1) k _ (by omega) (by simpa using hf) (by omega) h0
    ·rw [if_neg h3]
     rw [if_neg (by simp only [turns, decide_eq_false h3]; simp)] at h0
     exact specFull_l1 w r t hr hn n x y K res d (i + 1) k f (by omega) hf (by omega) h0
   ·rw [if_neg h2]
    rw [if_neg (by simp only [turns, decide_eq_false h2]; simp)] at h0
    exact specFull_l1 w r t hr hn n x y K res d (i + 1) k f (by omega) hf (by omega) h0
theorem implFull_l1 (w r : List Int) (t : Int) (hr : r.length = w.length) (hn : w.length ≤ 16) (x y : Int) (K : Nat) (res : List Bool) : ∀ (d i k : Nat) (f : List Bool) (b : Bool), i + d = w.length → f.length = w.length → K + d < k →
  (∀ k, K ≤ k → impl_FullIn.l0 k w r t (upd w r x y d i f) (chg w r x y d i f b) = some res) → impl_FullIn.l1 k w r t f b x y (w.length : Int) (i : Int) = some res
 | 0, i, k, f, b, hi, hf, hk, h0 => by
  obtain ⟨k, rfl⟩ : ∃ m, k = m + 1 := ⟨k - 1, by omega⟩
  simp only [impl_FullIn.l1]
  rw [if_neg (by omega)]
  exact h0 k (by omega)
 | d + 1, i, k, f, b, hi, hf, hk, h0 => by
  obtain ⟨k, rfl⟩ : ∃ m, k = m + 1 := ⟨k - 1, by omega⟩
  simp only [impl_FullIn.l1]
  rw [if_pos (by omega), if_pos (by omega), if_pos (by omega), w64 (x := (i : Int) + 1) (by omega) (by omega), show ((i : Int) + 1) = ((i + 1 : Nat) : Int) by omega, Int.toNat_natCast]
  have hu : upd w r x y (d + 1) i f = upd w r x y d (i + 1) (if turns w r x y f i = true then f.set i true else f) := rfl
  have hc : chg w r x y (d + 1) i f b = chg w r x y d (i + 1) (if turns w r x y f i = true then f.set i true else f) (if turns w r x y f i = true then true else b) := rfl
  rw [hu, hc] at h0
  by_cases h1 : rdOf false f (i : Int) = true
  ·rw [if_pos h1]
   simp only [if_neg (show ¬ turns w r x y f i = true by simp [turns, h1])] at h0
   exact implFull_l1 w r t hr hn x y K res d (i + 1) k f b (by omega) hf (by omega) h0
  ·rw [if_neg h1, if_pos (by omega)]
   by_cases h2 : rd w (i : Int) > 0
   ·rw [if_pos h2, if_pos (by omega)]
    by_cases h3 : wrap64 (x * rd w (i : Int)) ≥ wrap64 (y * rd r (i : Int))
    ·rw [if_pos h3]
     simp only [if_pos (show turns w r x y f i = true by simp [turns, h1, h2, h3])] at h0
     exact implFull_l1 w r t hr hn x y K res d (i + 1) k _ true (by omega) (by simpa using hf) (by omega) h0
    ·rw [if_neg h3]
     simp only [if_neg (show ¬ turns w r x y f i = true by simp only [turns, decide_eq_false h3]; simp)] at h0
     exact implFull_l1 w r t hr hn x y K res d (i + 1) k f b (by omega) hf (by omega) h0
   ·rw [if_neg h2]
    simp only [if_neg (show ¬ turns w r x y f i = true by simp only [turns, decide_eq_false h2]; simp)] at h0
    exact implFull_l1 w r t hr hn x y K res d (i + 1) k f b (by omega) hf (by omega) h0
theorem specFull_l0 (w r : List Int) (t : Int) (hr : r.length = w.length) (hn : w.length ≤ 16) : ∀ (m : Nat) (n : Nat) (f : List Bool), n + m = w.length + 1 → f.length = w.length → ∃ K, ∀ k, K ≤ k → spec_FullIn.l0 k w r t f (n : Int) = some (rounds w r t m f)
 | 0, n, f, hm, hf => ⟨1, fun k hk => by
  obtain ⟨k, rfl⟩ : ∃ m, k = m + 1 := ⟨k - 1, by omega⟩
  simp only [spec_FullIn.l0]
  rw [if_neg (by omega)]
  rfl⟩
 | m + 1, n, f, hm, hf => by
  obtain ⟨K, h⟩ := specFull_l0 w r t hr hn m (n + 1) (round w r t f) (by omega) (by rw [round_length]; exact hf)
  refine ⟨K + 2 * w.length + 3, fun k hk => ?_⟩
  obtain ⟨k, rfl⟩ : ∃ m, k = m + 1 := ⟨k - 1, by omega⟩
  simp only [spec_FullIn.l0]
  rw [if_pos (by omega)]
  have hs : spec_l18Rest.f k w r t f = some (restL w r f w.length 0 t 0) := specRest_l0 w r f hr hf hn w.length 0 k t 0 (by omega) (by omega)
  rw [hs, Option.bind_some]
  refine specFull_l1 w r t hr hn n _ _ K _ w.length 0 k f (by omega) hf (by omega) (fun k hk => ?_)
  rw [w64 (by omega) (by omega), show ((n : Int) + 1) = ((n + 1 : Nat) : Int) by omega]
  exact h k hk
theorem implFull_l0 (w r : List Int) (t : Int) (hr : r.length = w.length) (hn : w.length ≤ 16) : ∀ (n : Nat) (f : List Bool), f.length = w.length → w.length - count f ≤ n → ∃ K, ∀ k, K ≤ k → impl_FullIn.l0 k w r t f true = some (rounds w r t (n + 1) f)
 | n, f, hf, hc => by
  have hu : upd w r (restL w r f w.length 0 t 0).1 (restL w r f w.length 0 t 0).2 w.length 0 f = round w r t f := rfl
  have hle := count_le f
  obtain ⟨h1, h2, h3⟩ := chg_tells w r (restL w r f w.length 0 t 0).1 (restL w r f w.length 0 t 0).2 w.length 0 f false (by omega)
  rw [hu] at h1 h2 h3
  have hrl := round_length w r t f
  have hgl := count_le (round w r t f)
  have hnext : ∃ K, ∀ k, K ≤ k → impl_FullIn.l0 k w r t (round w r t f) (chg w r (restL w r f w.length 0 t 0).1 (restL w r f w.length 0 t 0).2 w.length 0 f false) = some (rounds w r t (n + 1) f) := by
   cases hb : chg w r (restL w r f w.length 0 t 0).1 (restL w r f w.length 0 t 0).2 w.length 0 f false with
   | false =>
    have hfix := (h1 hb).2
    refine ⟨1, fun k hk => ?_⟩
    obtain ⟨k, rfl⟩ : ∃ m, k = m + 1 := ⟨k - 1, by omega⟩
    simp only [impl_FullIn.l0]
    rw [if_neg (by decide), rounds_fix w r t f hfix, hfix]
   | true =>
    have hlt : count f < count (round w r t f) := (h3 hb).resolve_left (by decide)
    cases n with
    | zero => exfalso; omega
    | succ n =>
     obtain ⟨K, h⟩ := implFull_l0 w r t hr hn n (round w r t f) (by rw [hrl]; exact hf) (by omega)
     exact ⟨K, fun k hk => by rw [h k hk]; rfl⟩
  obtain ⟨K, h⟩ := hnext
  refine ⟨K + 2 * w.length + 3, fun k hk => ?_⟩
  obtain ⟨k, rfl⟩ : ∃ m, k = m + 1 := ⟨k - 1, by omega⟩
  simp only [impl_FullIn.l0]
  simp only [if_true]
  have hs : impl_left.f k w r t f = some (restL w r f w.length 0 t 0) := implLeft_l0 w r f hr hf hn w.length 0 k t 0 (by omega) (by omega)
  rw [hs, Option.bind_some, show (f.length : Int) = (w.length : Int) by omega]
  exact implFull_l1 w r t hr hn _ _ K _ w.length 0 k f false (by omega) hf (by omega) h
def fullL (w r : List Int) (t : Int) : List Bool := if DOk w r t = true then rounds w r t (w.length + 1) (List.replicate w.length false) else []
theorem DOk_len (w r : List Int) (t : Int) (h : DOk w r t = true) : w.length = r.length ∧ w.length ≤ 16 ∧ Wants w = true ∧ Wants r = true ∧ 0 ≤ t ∧ t ≤ roomSum w r w.length 0 0 := of_decide_eq_true h
theorem fullL_length (w r : List Int) (t : Int) (h : DOk w r t = true) : (fullL w r t).length = w.length := by
 unfold fullL
 rw [if_pos h, rounds_length]
 simp
theorem specFull_ev (w r : List Int) (t : Int) (hw : w.length ≤ 1048576) (hr : r.length ≤ 1048576) : ∃ K, ∀ k, K ≤ k → spec_FullIn.f k w r t = some (fullL w r t) := by
 by_cases h : DOk w r t = true
 ·obtain ⟨h1, h2, _⟩ := DOk_len w r t h
  obtain ⟨K, hK⟩ := specFull_l0 w r t h1.symm h2 (w.length + 1) 0 (List.replicate w.length false) (by omega) (by simp)
  refine ⟨K + w.length + r.length + 2, fun k hk => ?_⟩
  unfold spec_FullIn.f fullL
  rw [specDealOk_ev w r t hw hr k (by omega), Option.bind_some, if_pos h, if_pos (by omega), if_pos (by omega), if_pos h, Int.toNat_natCast]
  exact hK k (by omega)
 ·refine ⟨w.length + r.length + 2, fun k hk => ?_⟩
  unfold spec_FullIn.f fullL
  rw [specDealOk_ev w r t hw hr k (by omega), Option.bind_some, if_neg h, if_neg h]
theorem implFull_ev (w r : List Int) (t : Int) (hw : w.length ≤ 1048576) : ∃ K, ∀ k, K ≤ k → impl_FullIn.f k w r t = some (fullL w r t) := by
 by_cases h : DOk w r t = true
 ·obtain ⟨h1, h2, _⟩ := DOk_len w r t h
  obtain ⟨K, hK⟩ := implFull_l0 w r t h1.symm h2 w.length (List.replicate w.length false) (by simp) (by omega)
  refine ⟨K + w.length + 2, fun k hk => ?_⟩
  unfold impl_FullIn.f fullL
  rw [implDealOk_ev w r t hw k (by omega), Option.bind_some, if_pos h, if_pos (by omega), if_pos (by omega), if_pos h, Int.toNat_natCast]
  exact hK k (by omega)
 ·refine ⟨w.length + 2, fun k hk => ?_⟩
  unfold impl_FullIn.f fullL
  rw [implDealOk_ev w r t hw k (by omega), Option.bind_some, if_neg h, if_neg h]
end Go.Proofs.Ytannkhefallkhaa.Pure
/- What a deal leaves is never less than nothing. -/
namespace Go.Proofs.Ytannkhefallkhaa.Pure
open Go.RowKit Go.Proofs.Ytannkhefallkhaa.Q Go.Proofs.YtannkhefallkhaaW.PrintWords Go.Proofs.YtannkhefallkhaaW.PrintLast
def Small (l : List Int) : Prop := ∀ i : Nat, 0 ≤ rd l (i : Int) ∧ rd l (i : Int) ≤ 10000
theorem Small_of (l : List Int) (h : Wants l = true) : Small l := fun i => by
 by_cases hi : i < l.length
 ·rw [rd_get l i hi]
  exact Wants_mem l h _ (List.getElem_mem hi)
 ·rw [rd_nat, List.getD_eq_getElem?_getD, List.getElem?_eq_none (by omega)]
  simp
def sumF (r : List Int) (f : List Bool) : Nat → Nat → Int
 | 0, _ => 0
 | d + 1, i => (if rdOf false f (i : Int) = true then rd r (i : Int) else 0) + sumF r f d (i + 1)
def sumN (w : List Int) (f : List Bool) : Nat → Nat → Int
 | 0, _ => 0
 | d + 1, i => (if rdOf false f (i : Int) = true then 0 else rd w (i : Int)) + sumN w f d (i + 1)
theorem sumF_bound (r : List Int) (hr : Small r) (f : List Bool) : ∀ d i, 0 ≤ sumF r f d i ∧ sumF r f d i ≤ 10000 * d
 | 0, i => by simp [sumF]
 | d + 1, i => by
  have h := sumF_bound r hr f d (i + 1)
  have := hr i
  unfold sumF
  split <;> omega
theorem sumN_bound (w : List Int) (hw : Small w) (f : List Bool) : ∀ d i, 0 ≤ sumN w f d i ∧ sumN w f d i ≤ 10000 * d
 | 0, i => by simp [sumN]
 | d + 1, i => by
  have h := sumN_bound w hw f d (i + 1)
  have := hw i
  unfold sumN
  split <;> omega
theorem sumN_one (w : List Int) (hw : Small w) (f : List Bool) : ∀ (d i j : Nat), i ≤ j → j < i + d → rdOf false f (j : Int) ≠ true → rd w (j : Int) ≤ sumN w f d i
 | 0, i, j, h1, h2, _ => by omega
 | d + 1, i, j, h1, h2, h3 => by
  have hb := sumN_bound w hw f d (i + 1)
  have hi := hw i
  unfold sumN
  by_cases e : i = j
  ·subst e
   rw [if_neg h3]
   omega
  ·have := sumN_one w hw f d (i + 1) j (by omega) (by omega) h3
   split <;> omega
theorem restL_eq (w r : List Int) (hw : Small w) (hr : Small r) (f : List Bool) (d : Nat) : ∀ (i : Nat) (t s : Int), d ≤ 16 → -1000000000 + 10000 * d ≤ t → t ≤ 1000000000 → 0 ≤ s → s ≤ 1000000000 - 10000 * d → restL w r f d i t s = (t - sumF r f d i, s + sumN w f d i) := by
 induction d with
 | zero => intro i t s _ _ _ _ _; simp [restL, sumF, sumN]
 | succ d ih =>
  intro i t s hd h1 h2 h3 h4
  have hwi := hw i
  have hri := hr i
  unfold restL sumF sumN
  by_cases c : rdOf false f (i : Int) = true
  ·rw [if_pos c, if_pos c, if_pos c, w64 (by omega) (by omega), ih (i + 1) _ s (by omega) (by omega) (by omega) h3 (by omega)]
   congr 1 <;> omega
  ·rw [if_neg c, if_neg c, if_neg c, w64 (by omega) (by omega), ih (i + 1) t _ (by omega) (by omega) (by omega) (by omega) (by omega)]
   congr 1 <;> omega
theorem rdOf_set (f : List Bool) (i j : Nat) (h : j < f.length) : rdOf false (f.set i true) (j : Int) = if i = j then true else rdOf false f (j : Int) := by
 rw [rdOf_get _ j (by simpa using h), rdOf_get f j h, List.getElem_set]
theorem turns_set (w r : List Int) (x y : Int) (f : List Bool) (i j : Nat) (hj : j < f.length) (hne : i ≠ j) : turns w r x y (f.set i true) j = turns w r x y f j := by
 unfold turns
 rw [rdOf_set f i j hj, if_neg hne]
theorem upd_get (w r : List Int) (x y : Int) : ∀ (d i : Nat) (f : List Bool) (j : Nat), j < f.length → rdOf false (upd w r x y d i f) (j : Int) = if i ≤ j ∧ j < i + d then (rdOf false f (j : Int) || turns w r x y f j) else rdOf false f (j : Int)
 | 0, i, f, j, hj => by rw [if_neg (by omega)]; rfl
 | d + 1, i, f, j, hj => by
  unfold upd
  by_cases c : turns w r x y f i = true
  ·rw [if_pos c, upd_get w r x y d (i + 1) (f.set i true) j (by simpa using hj)]
   by_cases e : i = j
   ·subst e
    rw [if_neg (by omega), if_pos (by omega), rdOf_set f i i hj, if_pos rfl, c, Bool.or_true]
   ·rw [turns_set w r x y f i j hj e, rdOf_set f i j hj, if_neg e]
    by_cases c2 : i + 1 ≤ j ∧ j < i + 1 + d
    ·rw [if_pos c2, if_pos (by omega)]
    ·rw [if_neg c2, if_neg (by omega)]
  ·rw [if_neg c, upd_get w r x y d (i + 1) f j hj]
   by_cases e : i = j
   ·subst e
    rw [if_neg (by omega), if_pos (by omega), Bool.eq_false_iff.mpr c, Bool.or_false]
   ·by_cases c2 : i + 1 ≤ j ∧ j < i + 1 + d
    ·rw [if_pos c2, if_pos (by omega)]
    ·rw [if_neg c2, if_neg (by omega)]
theorem turns_iff (w r : List Int) (hw : Small w) (hr : Small r) (x y : Int) (hx : 0 ≤ x ∧ x ≤ 1000000) (hy : 0 ≤ y ∧ y ≤ 1000000) (f : List Bool) (j : Nat) : turns w r x y f j = true ↔ rdOf false f (j : Int) = false ∧ 0 < rd w (j : Int) ∧ y * rd r (j : Int) ≤ x * rd w (j : Int) := by
 have h1 := hw j
 have h2 := hr j
 have a1 : 0 ≤ x * rd w (j : Int) := Int.mul_nonneg hx.1 h1.1
 have a2 : x * rd w (j : Int) ≤ 1000000 * 10000 := Int.mul_le_mul hx.2 h1.2 h1.1 (by omega)
 have a3 : 0 ≤ y * rd r (j : Int) := Int.mul_nonneg hy.1 h2.1
 have a4 : y * rd r (j : Int) ≤ 1000000 * 10000 := Int.mul_le_mul hy.2 h2.2 h2.1 (by omega)
 unfold turns
 rw [w64 (by omega) (by omega), w64 (by omega) (by omega)]
 simp only [Bool.and_eq_true, Bool.not_eq_true', decide_eq_true_eq]
 try exact Iff.rfl
theorem upd_sums (w r : List Int) (hw : Small w) (hr : Small r) (x y : Int) (hx : 0 ≤ x ∧ x ≤ 1000000) (hy : 0 ≤ y ∧ y ≤ 1000000) (f g : List Bool) (n : Nat) (hg : ∀ j : Nat, j < n → rdOf false g (j : Int) = (rdOf false f (j : Int) || turns w r x y f j)) :
  ∀ (d i : Nat), i + d ≤ n → y * (sumF r g d i - sumF r f d i) ≤ x * (sumN w f d i - sumN w g d i) ∧ sumN w g d i ≤ sumN w f d i ∧ sumF r f d i ≤ sumF r g d i ∧ (sumN w f d i = 0 → sumF r g d i = sumF r f d i)
 | 0, i, _ => by simp [sumF, sumN]
 | d + 1, i, h => by
  obtain ⟨h1, h2, h3, h4⟩ := upd_sums w r hw hr x y hx hy f g n hg d (i + 1) (by omega)
  have hgi := hg i (by omega)
  have hwi := hw i
  have hri := hr i
  have hbf := sumN_bound w hw f d (i + 1)
  unfold sumF sumN
  by_cases c : turns w r x y f i = true
  ·obtain ⟨t1, t2, t3⟩ := (turns_iff w r hw hr x y hx hy f i).mp c
   rw [c, Bool.or_true] at hgi
   rw [hgi, t1]
   simp only [reduceIte, Bool.false_eq_true]
   refine ⟨?_, by omega, by omega, fun h => by omega⟩
   have e1 : y * (rd r (i : Int) + sumF r g d (i + 1) - (0 + sumF r f d (i + 1))) = y * rd r (i : Int) + y * (sumF r g d (i + 1) - sumF r f d (i + 1)) := by rw [← Int.mul_add]; congr 1; omega
   have e2 : x * (rd w (i : Int) + sumN w f d (i + 1) - (0 + sumN w g d (i + 1))) = x * rd w (i : Int) + x * (sumN w f d (i + 1) - sumN w g d (i + 1)) := by rw [← Int.mul_add]; congr 1; omega
   rw [e1, e2]
   omega
  ·rw [Bool.eq_false_iff.mpr c, Bool.or_false] at hgi
   rw [hgi]
   by_cases cf : rdOf false f (i : Int) = true
   ·rw [if_pos cf, if_pos cf]
    refine ⟨?_, by omega, by omega, fun h => by have := h4 (by omega); omega⟩
    rw [show rd r (i : Int) + sumF r g d (i + 1) - (rd r (i : Int) + sumF r f d (i + 1)) = sumF r g d (i + 1) - sumF r f d (i + 1) by omega, show 0 + sumN w f d (i + 1) - (0 + sumN w g d (i + 1)) = sumN w f d (i + 1) - sumN w g d (i + 1) by omega]
    exact h1
   ·rw [if_neg cf, if_neg cf]
    refine ⟨?_, by omega, by omega, fun h => by have := h4 (by omega); omega⟩
    rw [show 0 + sumF r g d (i + 1) - (0 + sumF r f d (i + 1)) = sumF r g d (i + 1) - sumF r f d (i + 1) by omega, show rd w (i : Int) + sumN w f d (i + 1) - (rd w (i : Int) + sumN w g d (i + 1)) = sumN w f d (i + 1) - sumN w g d (i + 1) by omega]
    exact h1
def left2 (w r : List Int) (t : Int) (f : List Bool) : Int × Int := (t - sumF r f w.length 0, sumN w f w.length 0)
theorem restL_left2 (w r : List Int) (hw : Small w) (hr : Small r) (t : Int) (ht : 0 ≤ t ∧ t ≤ 1000000) (hn : w.length ≤ 16) (f : List Bool) : restL w r f w.length 0 t 0 = left2 w r t f := by
 rw [restL_eq w r hw hr f w.length 0 t 0 hn (by omega) (by omega) (by omega) (by omega)]
 unfold left2
 congr 1
 omega
theorem round_left (w r : List Int) (hw : Small w) (hr : Small r) (t : Int) (ht : 0 ≤ t ∧ t ≤ 1000000) (hn : w.length ≤ 16) (f : List Bool) (hf : f.length = w.length) (h : 0 ≤ (left2 w r t f).1) : 0 ≤ (left2 w r t (round w r t f)).1 := by
 have hbF := sumF_bound r hr f w.length 0
 have hbN := sumN_bound w hw f w.length 0
 have hx : 0 ≤ (left2 w r t f).1 ∧ (left2 w r t f).1 ≤ 1000000 := ⟨h, by unfold left2; omega⟩
 have hy : 0 ≤ (left2 w r t f).2 ∧ (left2 w r t f).2 ≤ 1000000 := by unfold left2; omega
 have hg : ∀ j : Nat, j < w.length → rdOf false (round w r t f) (j : Int) = (rdOf false f (j : Int) || turns w r (left2 w r t f).1 (left2 w r t f).2 f j) := fun j hj => by
  unfold round
  rw [restL_left2 w r hw hr t ht hn f, upd_get _ _ _ _ _ _ _ j (by omega), if_pos (by omega)]
 obtain ⟨h1, h2, h3, h4⟩ := upd_sums w r hw hr _ _ hx hy f (round w r t f) w.length hg w.length 0 (by omega)
 have hbG := sumN_bound w hw (round w r t f) w.length 0
 have hx1 : (left2 w r t f).1 = t - sumF r f w.length 0 := rfl
 have hy1 : (left2 w r t f).2 = sumN w f w.length 0 := rfl
 show 0 ≤ t - sumF r (round w r t f) w.length 0
 generalize (left2 w r t f).1 = x at *
 generalize (left2 w r t f).2 = y at *
 generalize sumF r (round w r t f) w.length 0 = G at *
 generalize sumN w (round w r t f) w.length 0 = M at *
 subst hy1
 by_cases hz : sumN w f w.length 0 = 0
 ·have := h4 hz
  omega
 ·generalize sumN w f w.length 0 = y at *
  have a1 : x * (y - M) ≤ x * y := Int.mul_le_mul_of_nonneg_left (by omega) hx.1
  have a2 : y * (G - sumF r f w.length 0) ≤ y * x := by rw [Int.mul_comm y x]; omega
  have a3 : G - sumF r f w.length 0 ≤ x := Int.le_of_mul_le_mul_left a2 (by omega)
  omega
theorem rounds_left (w r : List Int) (hw : Small w) (hr : Small r) (t : Int) (ht : 0 ≤ t ∧ t ≤ 1000000) (hn : w.length ≤ 16) : ∀ (m : Nat) (f : List Bool), f.length = w.length → 0 ≤ (left2 w r t f).1 → 0 ≤ (left2 w r t (rounds w r t m f)).1
 | 0, f, _, h => h
 | m + 1, f, hf, h => by
  unfold rounds
  exact rounds_left w r hw hr t ht hn m _ (by rw [round_length]; exact hf) (round_left w r hw hr t ht hn f hf h)
theorem sumF_none (r : List Int) (n : Nat) : ∀ d i, sumF r (List.replicate n false) d i = 0
 | 0, i => rfl
 | d + 1, i => by
  unfold sumF
  rw [sumF_none r n d (i + 1), if_neg]
  ·rfl
  ·unfold rdOf
   rw [Int.toNat_natCast, List.getD_eq_getElem?_getD]
   by_cases h : i < n
   ·rw [List.getElem?_eq_getElem (by simpa using h)]; simp
   ·rw [List.getElem?_eq_none (by simp; omega)]; simp
theorem roomSum_le (w r : List Int) (hr : Small r) (d : Nat) : ∀ (i : Nat) (acc : Int), d ≤ 16 → 0 ≤ acc → acc ≤ 1000000 - 10000 * d → 0 ≤ roomSum w r d i acc ∧ roomSum w r d i acc ≤ acc + 10000 * d := by
 induction d with
 | zero => intro i acc _ h1 h2; exact ⟨h1, by simp [roomSum]⟩
 | succ d ih =>
  intro i acc hd h1 h2
  have hri := hr i
  unfold roomSum
  split
  ·rw [w64 (by omega) (by omega)]
   have := ih (i + 1) (acc + rd r (i : Int)) (by omega) (by omega) (by omega)
   omega
  ·have := ih (i + 1) acc (by omega) h1 (by omega)
   omega
theorem DOk_facts (w r : List Int) (t : Int) (h : DOk w r t = true) : Small w ∧ Small r ∧ w.length = r.length ∧ w.length ≤ 16 ∧ 0 ≤ t ∧ t ≤ 160000 ∧ 0 ≤ (left2 w r t (fullL w r t)).1 ∧ (left2 w r t (fullL w r t)).1 ≤ 160000 := by
 obtain ⟨h1, h2, h3, h4, h5, h6⟩ := DOk_len w r t h
 have hw := Small_of w h3
 have hr := Small_of r h4
 have hs := roomSum_le w r hr w.length 0 0 h2 (by omega) (by omega)
 have hl := rounds_left w r hw hr t ⟨h5, by omega⟩ h2 (w.length + 1) (List.replicate w.length false) (by simp) (by unfold left2; rw [sumF_none]; omega)
 have hb := sumF_bound r hr (fullL w r t) w.length 0
 refine ⟨hw, hr, h1, h2, h5, by omega, ?_, by unfold left2; omega⟩
 unfold fullL
 rw [if_pos h]
 exact hl
end Go.Proofs.Ytannkhefallkhaa.Pure
/- Plain facts about the insertion sort by a key: greatest keys first, and equals in the order in which they stood. -/
namespace Go.Proofs.Ytannkhefallkhaa.Pure
open Go.Sort
section
variable {α : Type} (key : α → Int) (ix : α → Nat)
def byKey (x y : α) : Bool := decide (key y < key x)
def byKeyIx (x y : α) : Bool := decide (key y < key x ∨ key y = key x ∧ ix x < ix y)
theorem byKeyIx_eq {x y : α} (h : ix y < ix x) : byKeyIx key ix x y = byKey key x y := by
 unfold byKeyIx byKey
 exact decide_eq_decide.mpr ⟨fun h2 => by omega, fun h2 => .inl h2⟩
theorem swo_byKeyIx : SWO (byKeyIx key ix) where
 irrefl := fun x => by unfold byKeyIx; exact decide_eq_false (by omega)
 trans := fun x y z h1 h2 => by unfold byKeyIx at *; have := of_decide_eq_true h1; have := of_decide_eq_true h2; exact decide_eq_true (by omega)
 ntrans := fun x y z h1 h2 => by unfold byKeyIx at *; have := of_decide_eq_false h1; have := of_decide_eq_false h2; exact decide_eq_false (by omega)
end
section
variable {α : Type} [Inhabited α] (key : α → Int) (ix : α → Nat)
theorem insInner_size (lt : α → α → Bool) (a : Nat) : ∀ (j : Nat) (d : Array α), (insInner lt a j d).size = d.size
 | 0, d => rfl
 | j + 1, d => by
  unfold insInner
  split
  ·rw [insInner_size lt a j, swp_size]
  ·rfl
theorem insInner_far (lt : α → α → Bool) (a : Nat) : ∀ (j : Nat) (d : Array α), j < d.size → ∀ q, j < q → (insInner lt a j d)[q]! = d[q]!
 | 0, d, _, q, _ => rfl
 | j + 1, d, hs, q, hq => by
  unfold insInner
  split
  ·rw [insInner_far lt a j _ (by rw [swp_size]; omega) q (by omega), swp_get d hs (by omega), if_neg (by omega), if_neg (by omega)]
  ·rfl
theorem insInner_all (lt : α → α → Bool) (a : Nat) (P : α → Prop) (i : Nat) : ∀ (j : Nat) (d : Array α), j ≤ i → i < d.size → (∀ p, p ≤ i → P d[p]!) → ∀ p, p ≤ i → P (insInner lt a j d)[p]!
 | 0, d, _, _, h => h
 | j + 1, d, hj, hs, h => by
  unfold insInner
  split
  ·refine insInner_all lt a P i j _ (by omega) (by rw [swp_size]; exact hs) fun p hp => ?_
   rw [swp_get d (by omega) (by omega)]
   split
   ·exact h _ hj
   ·split
    ·exact h _ (by omega)
    ·exact h _ hp
  ·exact h
theorem insInner_key (a : Nat) : ∀ (j : Nat) (d : Array α), j < d.size → (∀ p, p < j → ix d[p]! < ix d[j]!) → insInner (byKey key) a j d = insInner (byKeyIx key ix) a j d
 | 0, d, _, _ => rfl
 | j + 1, d, hs, h => by
  unfold insInner
  rw [byKeyIx_eq key ix (h j (by omega))]
  split
  ·refine insInner_key a j _ (by rw [swp_size]; omega) fun p hp => ?_
   rw [swp_get d hs (by omega), swp_get d hs (by omega), if_neg (by omega), if_neg (by omega), if_pos rfl]
   exact h p (by omega)
  ·rfl
theorem insOuter_key (a b : Nat) : ∀ (n i : Nat) (d : Array α), i + n = b ∨ (n = 0 ∧ b ≤ i) → b ≤ d.size → (∀ q, i ≤ q → q < b → ∀ p, p < q → ix d[p]! < ix d[q]!) → insOuter (byKey key) a b i d = insOuter (byKeyIx key ix) a b i d
 | 0, i, d, hi, hb, h => by
  rw [insOuter.eq_1 (byKey key), insOuter.eq_1 (byKeyIx key ix), if_neg (by omega), if_neg (by omega)]
 | n + 1, i, d, hi, hb, h => by
  rw [insOuter.eq_1 (byKey key), if_pos (by omega), insOuter.eq_1 (byKeyIx key ix), if_pos (by omega), insInner_key key ix a i d (by omega) (h i (Nat.le_refl _) (by omega))]
  refine insOuter_key a b n (i + 1) _ (by omega) (by rw [insInner_size]; exact hb) fun q h1 h2 p hp => ?_
  rw [insInner_far _ a i d (by omega) q (by omega)]
  by_cases c : p ≤ i
  ·exact insInner_all (byKeyIx key ix) a (fun v => ix v < ix d[q]!) i i d (Nat.le_refl _) (by omega) (fun p hp => h q (by omega) h2 p (by omega)) p c
  ·rw [insInner_far _ a i d (by omega) p (by omega)]
   exact h q (by omega) h2 p hp
theorem insertionSort_key (d : Array α) (h : ∀ p q, p < q → q < d.size → ix d[p]! < ix d[q]!) :
  (insertionSort (byKey key) d 0 d.size).toList.Perm d.toList ∧ (insertionSort (byKey key) d 0 d.size).toList.Pairwise fun x y => key y < key x ∨ key y = key x ∧ ix x < ix y := by
 have e : insertionSort (byKey key) d 0 d.size = insertionSort (byKeyIx key ix) d 0 d.size := by
  unfold insertionSort
  rcases Nat.eq_zero_or_pos d.size with c | c
  ·exact insOuter_key key ix 0 d.size 0 1 d (by omega) (Nat.le_refl _) fun q h1 h2 p hp => h p q hp h2
  ·exact insOuter_key key ix 0 d.size (d.size - 1) (0 + 1) d (by omega) (Nat.le_refl _) fun q h1 h2 p hp => h p q hp h2
 rw [e]
 obtain ⟨h1, h2⟩ := insertionSort_holds (lt := byKeyIx key ix) (swo_byKeyIx key ix) d 0 d.size (Nat.zero_le _) (Nat.le_refl _)
 generalize insertionSort (byKeyIx key ix) d 0 d.size = r at h1 h2
 obtain ⟨hsz, _, hp⟩ := h1
 have hperm : r.toList.Perm d.toList := by
  have e1 : (r.extract 0 d.size) = r := by rw [← hsz]; simp
  have e2 : (d.extract 0 d.size) = d := by simp
  rwa [e1, e2] at hp
 refine ⟨hperm, ?_⟩
 -- no place stands twice
 have hnd : r.toList.Pairwise fun x y => ix x ≠ ix y := by
  have : d.toList.Pairwise fun x y => ix x ≠ ix y := by
   refine List.pairwise_iff_getElem.mpr fun i j hi hj hij => ?_
   have := h i j hij (by simpa using hj)
   rw [getElem!_pos d i (by simp at hi; omega), getElem!_pos d j (by simpa using hj)] at this
   simp only [Array.getElem_toList]
   omega
  exact (hperm.pairwise_iff (fun h => fun e => h e.symm)).mpr this
 refine List.pairwise_iff_getElem.mpr fun i j hi hj hij => ?_
 have hne := List.pairwise_iff_getElem.mp hnd i j hi hj hij
 have hs := h2 i j (Nat.zero_le _) hij (by simp at hj; omega)
 rw [getElem!_pos r i (by simpa using hi), getElem!_pos r j (by simpa using hj)] at hs
 simp only [Array.getElem_toList] at hne ⊢
 have := of_decide_eq_false hs
 omega
end
end Go.Proofs.Ytannkhefallkhaa.Pure
/- Those that get one more: the first ones of the places, sorted by what is over. -/
namespace Go.Proofs.Ytannkhefallkhaa.Pure
open Go.RowKit Go.Proofs.Ytannkhefallkhaa.Q Go.Proofs.YtannkhefallkhaaW.PrintWords Go.Proofs.YtannkhefallkhaaW.PrintLast Go.Proofs.YtannkhefallkhaaW.PrintMore
theorem rd_map (n : Nat) (g : Nat → Int) (i : Nat) (h : i < n) : rd ((List.range n).map g) (i : Int) = g i := by
 rw [rd_get _ i (by simpa using h)]
 simp
theorem map_set (n : Nat) (g h : Nat → Int) (a : Nat) (x : Int) (hx : x = h a) (hg : ∀ i, i ≠ a → g i = h i) : ((List.range n).map g).set a x = (List.range n).map h := by
 apply List.ext_getElem
 ·simp
 ·intro i h1 h2
  rw [List.getElem_set]
  by_cases e : a = i
  ·subst e; rw [if_pos rfl, hx]; simp
  ·rw [if_neg e]; simp [hg i (Ne.symm e)]
def outAt (base : Nat → Int) (n : Nat) (l : List Int) : List Int := (List.range n).map fun i : Nat => base i + if (i : Int) ∈ l then 1 else 0
def restAt (key : Nat → Int) (n : Nat) (l : List Int) : List Int := (List.range n).map fun i : Nat => if (i : Int) ∈ l then key i else -1
theorem outAt_set (base : Nat → Int) (n : Nat) (l : List Int) (a : Nat) (ha : a < n) (hl : (a : Int) ∉ l) : (outAt base n l).set a (rd (outAt base n l) (a : Int) + 1) = outAt base n (l ++ [(a : Int)]) := by
 unfold outAt
 refine map_set n _ _ a _ ?_ ?_
 ·rw [rd_map n _ a ha, if_neg hl, if_pos (by simp)]
  omega
 ·intro i hi
  have : ((i : Int) ∈ l ++ [(a : Int)]) ↔ (i : Int) ∈ l := by
   rw [List.mem_append, List.mem_singleton]
   exact ⟨fun h => h.elim id (fun e => absurd (Int.ofNat.inj e) hi), .inl⟩
  simp only [this]
theorem restAt_set (key : Nat → Int) (n : Nat) (l : List Int) (a : Nat) (hl : (a : Int) ∉ l) : (restAt key n ((a : Int) :: l)).set a (-1) = restAt key n l := by
 unfold restAt
 refine map_set n _ _ a _ ?_ ?_
 ·rw [if_neg hl]
 ·intro i hi
  have : ((i : Int) ∈ (a : Int) :: l) ↔ (i : Int) ∈ l := by
   rw [List.mem_cons]
   exact ⟨fun h => h.elim (fun e => absurd (Int.ofNat.inj e) hi) id, .inr⟩
  simp only [this]
def Best (rests : List Int) (i : Nat) (b : Int) : Prop := (b = -1 ∧ ∀ j : Nat, j < i → rd rests (j : Int) < 0) ∨ ∃ a : Nat, b = (a : Int) ∧ a < i ∧ 0 ≤ rd rests (a : Int) ∧ ∀ j : Nat, j < i → 0 ≤ rd rests (j : Int) → rd rests (j : Int) < rd rests (a : Int) ∨ rd rests (j : Int) = rd rests (a : Int) ∧ a ≤ j
theorem best_l2 (out rests : List Int) (left : Int) (hl : rests.length ≤ 16) : ∀ (d i : Nat) (b : Int), i + d = rests.length → Best rests i b → ∃ b', Best rests rests.length b' ∧ ∀ k, spec_DealOf.l2 (k + d + 1) out left rests b (i : Int) = (if b' < 0 then (some out) else (if 0 ≤ b' then (if b' < (out.length : Int) then (if b' < (rests.length : Int) then (spec_DealOf.l1 k (out.set (b' : Int).toNat (wrap64 ((rd out b') + 1))) (wrap64 (left - 1)) (rests.set (b' : Int).toNat (-1))) else (none)) else (none)) else (none)))
 | 0, i, b, hi, hb => by
  obtain rfl : i = rests.length := by omega
  refine ⟨b, hb, fun k => ?_⟩
  rw [Nat.add_zero, spec_DealOf.l2, if_neg (by omega)]
 | d + 1, i, b, hi, hb => by
  have h1 : (i : Int) < (rests.length : Int) := by omega
  have h2 : (0 : Int) ≤ i := by omega
  have e9 : wrap64 ((i : Int) + 1) = ((i + 1 : Nat) : Int) := by rw [w64 (by omega) (by omega)]; rfl
  have hstep : ∀ k, spec_DealOf.l2 (k + (d + 1) + 1) out left rests b (i : Int) = (if (rd rests (i : Int)) ≥ 0 then (if b < 0 then (spec_DealOf.l2 (k + d + 1) out left rests (i : Int) ((i + 1 : Nat) : Int)) else (if 0 ≤ b then (if b < (rests.length : Int) then (if (rd rests (i : Int)) > (rd rests b) then (spec_DealOf.l2 (k + d + 1) out left rests (i : Int) ((i + 1 : Nat) : Int)) else (spec_DealOf.l2 (k + d + 1) out left rests b ((i + 1 : Nat) : Int))) else (none)) else (none))) else (spec_DealOf.l2 (k + d + 1) out left rests b ((i + 1 : Nat) : Int))) := fun k => by
   rw [show k + (d + 1) + 1 = (k + d + 1) + 1 by omega, spec_DealOf.l2, if_pos h1, if_pos h2, e9]
  by_cases c : rd rests (i : Int) ≥ 0
  ·rcases hb with ⟨rfl, hb⟩ | ⟨a, rfl, ha, hb1, hb2⟩
   ·obtain ⟨b', q1, q2⟩ := best_l2 out rests left hl d (i + 1) (i : Int) (by omega) (.inr ⟨i, rfl, by omega, c, fun j hj h0 => by
     by_cases e : j = i
     ·subst e; exact .inr ⟨rfl, Nat.le_refl _⟩
     ·have := hb j (by omega); omega⟩)
    exact ⟨b', q1, fun k => by rw [hstep, if_pos c, if_pos (by decide)]; exact q2 k⟩
   ·by_cases c2 : rd rests (i : Int) > rd rests (a : Int)
    ·obtain ⟨b', q1, q2⟩ := best_l2 out rests left hl d (i + 1) (i : Int) (by omega) (.inr ⟨i, rfl, by omega, c, fun j hj h0 => by
      by_cases e : j = i
      ·subst e; exact .inr ⟨rfl, Nat.le_refl _⟩
      ·have := hb2 j (by omega) h0; omega⟩)
     exact ⟨b', q1, fun k => by rw [hstep, if_pos c, if_neg (by omega), if_pos (by omega), if_pos (by omega), if_pos c2]; exact q2 k⟩
    ·obtain ⟨b', q1, q2⟩ := best_l2 out rests left hl d (i + 1) (a : Int) (by omega) (.inr ⟨a, rfl, by omega, hb1, fun j hj h0 => by
      by_cases e : j = i
      ·subst e; omega
      ·exact hb2 j (by omega) h0⟩)
     exact ⟨b', q1, fun k => by rw [hstep, if_pos c, if_neg (by omega), if_pos (by omega), if_pos (by omega), if_neg c2]; exact q2 k⟩
  ·obtain ⟨b', q1, q2⟩ := best_l2 out rests left hl d (i + 1) b (by omega) (by
    rcases hb with ⟨e, hb⟩ | ⟨a, e, ha, hb1, hb2⟩
    ·exact .inl ⟨e, fun j hj => by
      by_cases e : j = i
      ·subst e; omega
      ·exact hb j (by omega)⟩
    ·exact .inr ⟨a, e, by omega, hb1, fun j hj h0 => by
      by_cases e : j = i
      ·subst e; omega
      ·exact hb2 j (by omega) h0⟩)
   exact ⟨b', q1, fun k => by rw [hstep, if_neg c]; exact q2 k⟩
def Ordered (key : Nat → Int) (n : Nat) (s : List Int) : Prop := (∀ x ∈ s, ∃ a : Nat, x = (a : Int) ∧ a < n ∧ 0 ≤ key a) ∧ s.Pairwise fun x y => key y.toNat < key x.toNat ∨ key y.toNat = key x.toNat ∧ x < y
theorem Ordered.nodup {key : Nat → Int} {n : Nat} {s : List Int} (h : Ordered key n s) : s.Nodup := List.Pairwise.imp (fun h e => by subst e; omega) h.2
theorem Ordered.tail {key : Nat → Int} {n : Nat} {x : Int} {s : List Int} (h : Ordered key n (x :: s)) : Ordered key n s := ⟨fun y hy => h.1 y (List.mem_cons_of_mem _ hy), (List.pairwise_cons.mp h.2).2⟩
theorem best_first (key : Nat → Int) (n : Nat) (x : Int) (l : List Int) (h : Ordered key n (x :: l)) (b : Int) (hb : Best (restAt key n (x :: l)) n b) : b = x := by
 obtain ⟨a, rfl, ha, hka⟩ := h.1 x List.mem_cons_self
 have hra : rd (restAt key n ((a : Int) :: l)) (a : Int) = key a := by
  unfold restAt
  rw [rd_map n _ a ha, if_pos List.mem_cons_self]
 rcases hb with ⟨_, hb⟩ | ⟨c, rfl, hc, hb1, hb2⟩
 ·have := hb a ha
  omega
 ·have hrc : rd (restAt key n ((a : Int) :: l)) (c : Int) = if (c : Int) ∈ (a : Int) :: l then key c else -1 := by
   unfold restAt
   rw [rd_map n _ c hc]
  by_cases hm : (c : Int) ∈ (a : Int) :: l
  ·rw [if_pos hm] at hrc
   have h1 := hb2 a ha (by omega)
   rcases List.mem_cons.mp hm with e | hm
   ·exact e
   ·have h2 := (List.pairwise_cons.mp h.2).1 _ hm
    simp only [Int.toNat_natCast] at h2
    rw [hra, hrc] at h1
    omega
  ·rw [if_neg hm] at hrc
   omega
theorem best_none (key : Nat → Int) (n : Nat) (b : Int) (hb : Best (restAt key n []) n b) : b = -1 := by
 rcases hb with ⟨e, _⟩ | ⟨c, rfl, hc, hb1, _⟩
 ·exact e
 ·unfold restAt at hb1
  rw [rd_map n _ c hc, if_neg (by simp)] at hb1
  omega
theorem restAt_length (key : Nat → Int) (n : Nat) (l : List Int) : (restAt key n l).length = n := by simp [restAt]
theorem outAt_length (base : Nat → Int) (n : Nat) (l : List Int) : (outAt base n l).length = n := by simp [outAt]
def more (left : Int) (n : Nat) : Nat := (mx 0 (mn left (n : Int))).toNat
theorem more_eq (left : Int) (n : Nat) : (more left n : Int) = if left ≤ 0 then 0 else if left ≤ (n : Int) then left else (n : Int) := by
 unfold more mx mn
 repeat' split
 all_goals omega
theorem deal_spec_l1 (base key : Nat → Int) (n : Nat) (hn : n ≤ 16) (hbase : ∀ i, -1000000 ≤ base i ∧ base i ≤ 1000000) : ∀ (l taken : List Int) (left : Int), Ordered key n l → (∀ x ∈ l, x ∉ taken) → left ≤ 1000000 → ∃ K, ∀ k, K ≤ k → spec_DealOf.l1 k (outAt base n taken) left (restAt key n l) = some (outAt base n (taken ++ l.take (more left l.length)))
 | l, taken, left, ho, hd, hleft => by
  by_cases hpos : left > 0
  ·obtain ⟨b, hb, hk⟩ := best_l2 (outAt base n taken) (restAt key n l) left (by rw [restAt_length]; exact hn) n 0 (-1) (by rw [restAt_length]; omega) (.inl ⟨rfl, fun j hj => by omega⟩)
   rw [restAt_length] at hb
   match l, ho, hd with
   | [], _, _ =>
    have := best_none key n b hb
    subst this
    refine ⟨n + 2, fun k hkk => ?_⟩
    obtain ⟨k, rfl⟩ : ∃ m, k = m + n + 1 + 1 := ⟨k - n - 2, by omega⟩
    have h0 := hk k
    rw [show ((0 : Nat) : Int) = 0 from rfl, if_pos (by decide)] at h0
    rw [spec_DealOf.l1, if_pos hpos, h0]
    simp
   | x :: l, ho, hd =>
    have hbx := best_first key n x l ho b hb
    subst hbx
    obtain ⟨a, rfl, ha, hka⟩ := ho.1 b List.mem_cons_self
    have hnd := List.nodup_cons.mp ho.nodup
    have hout : (outAt base n taken).set a (rd (outAt base n taken) (a : Int) + 1) = outAt base n (taken ++ [(a : Int)]) := outAt_set base n taken a ha (hd _ List.mem_cons_self)
    have hrest := restAt_set key n l a hnd.1
    have hrdb : rd (outAt base n taken) (a : Int) = base a := by
     unfold outAt
     rw [rd_map n _ a ha, if_neg (hd _ List.mem_cons_self), Int.add_zero]
    have hba := hbase a
    obtain ⟨K, h⟩ := deal_spec_l1 base key n hn hbase l (taken ++ [(a : Int)]) (left - 1) ho.tail (fun y hy => by
     rw [List.mem_append, List.mem_singleton]
     rintro (e | e)
     ·exact hd y (List.mem_cons_of_mem _ hy) e
     ·subst e; exact hnd.1 hy) (by omega)
    refine ⟨K + n + 2, fun k hkk => ?_⟩
    obtain ⟨k, rfl⟩ : ∃ m, k = m + n + 1 + 1 := ⟨k - n - 2, by omega⟩
    have h0 := hk k
    rw [show ((0 : Nat) : Int) = 0 from rfl, if_neg (by omega), if_pos (by omega), if_pos (by rw [outAt_length]; omega), if_pos (by rw [restAt_length]; omega), Int.toNat_natCast, w64 (by omega) (by omega), w64 (by omega) (by omega), hout, hrest, h k (by omega)] at h0
    rw [spec_DealOf.l1, if_pos hpos, h0]
    have hm : more left ((a : Int) :: l).length = more (left - 1) l.length + 1 := by
     have h1 := more_eq left ((a : Int) :: l).length
     have h2 := more_eq (left - 1) l.length
     simp only [List.length_cons] at h1 ⊢
     repeat' split at h1
     all_goals repeat' split at h2
     all_goals omega
    rw [hm, List.take_succ_cons, List.append_assoc, List.singleton_append]
  ·refine ⟨1, fun k hkk => ?_⟩
   obtain ⟨k, rfl⟩ : ∃ m, k = m + 1 := ⟨k - 1, by omega⟩
   have hm : more left l.length = 0 := by
    have h1 := more_eq left l.length
    rw [if_pos (by omega)] at h1
    omega
   rw [spec_DealOf.l1, if_neg hpos, hm]
   simp
theorem deal_impl_l1 (base : Nat → Int) (n : Nat) (hbase : ∀ i, -1000000 ≤ base i ∧ base i ≤ 1000000) (y : List Int) (hy : ∀ x ∈ y, ∃ a : Nat, x = (a : Int) ∧ a < n) (hyn : y.Nodup) (hyl : y.length ≤ 16) : ∀ (d i : Nat), i + d = y.length → ∃ K, ∀ k, K ≤ k → impl_DealOf.l1 k (outAt base n (y.take i)) y (y.length : Int) (i : Int) = some (outAt base n y)
 | 0, i, hi => by
  refine ⟨1, fun k hk => ?_⟩
  obtain ⟨k, rfl⟩ : ∃ m, k = m + 1 := ⟨k - 1, by omega⟩
  rw [impl_DealOf.l1, if_neg (by omega), List.take_of_length_le (by omega)]
 | d + 1, i, hi => by
  have hlt : i < y.length := by omega
  obtain ⟨a, ea, ha⟩ := hy y[i] (List.getElem_mem hlt)
  have hrd : rd y (i : Int) = (a : Int) := by rw [rd_get y i hlt, ea]
  have hts : y.take (i + 1) = y.take i ++ [(a : Int)] := by rw [List.take_succ_eq_append_getElem hlt, ea]
  have hnot : (a : Int) ∉ y.take i := by
   rw [← ea]
   intro hm
   obtain ⟨j, hj, e⟩ := List.getElem_of_mem hm
   rw [List.length_take] at hj
   rw [List.getElem_take] at e
   have := List.pairwise_iff_getElem.mp hyn j i (by omega) hlt (by omega)
   exact this e
  have hrdb : rd (outAt base n (y.take i)) (a : Int) = base a := by
   unfold outAt
   rw [rd_map n _ a ha, if_neg hnot, Int.add_zero]
  have hba := hbase a
  have hout := outAt_set base n (y.take i) a ha hnot
  have e9 : wrap64 ((i : Int) + 1) = ((i + 1 : Nat) : Int) := by rw [w64 (by omega) (by omega)]; rfl
  obtain ⟨K, h⟩ := deal_impl_l1 base n hbase y hy hyn hyl d (i + 1) (by omega)
  refine ⟨K + 1, fun k hk => ?_⟩
  obtain ⟨k, rfl⟩ : ∃ m, k = m + 1 := ⟨k - 1, by omega⟩
  rw [impl_DealOf.l1, if_pos (by omega), if_pos (by omega), if_pos (by omega), hrd, if_pos (by omega), if_pos (by rw [outAt_length]; omega), Int.toNat_natCast, w64 (by omega) (by omega), hout, ← hts, e9]
  exact h k (by omega)
end Go.Proofs.Ytannkhefallkhaa.Pure
/- DealOf: the program's loops and the reference's, and what both answer. -/
namespace Go.Proofs.Ytannkhefallkhaa.Pure
open Go.RowKit Go.Proofs.Ytannkhefallkhaa.Q Go.Proofs.YtannkhefallkhaaW.PrintWords Go.Proofs.YtannkhefallkhaaW.PrintLast Go.Proofs.YtannkhefallkhaaW.PrintMore
def baseD (w r : List Int) (f : List Bool) (R D : Int) (i : Nat) : Int := if rdOf false f (i : Int) = true then rd r (i : Int) else if rd w (i : Int) > 0 then Int.tdiv (R * rd w (i : Int)) D else 0
def keyD (w : List Int) (R D : Int) (i : Nat) : Int := Int.tmod (R * rd w (i : Int)) D
def overD (w : List Int) (f : List Bool) (R D : Int) (i : Nat) : Int := if rdOf false f (i : Int) = true then -1 else if rd w (i : Int) > 0 then keyD w R D i else -1
def plcD (w : List Int) (f : List Bool) : Nat → Nat → List Int
 | 0, _ => []
 | d + 1, i => if rdOf false f (i : Int) = true then plcD w f d (i + 1) else if rd w (i : Int) > 0 then (i : Int) :: plcD w f d (i + 1) else plcD w f d (i + 1)
def qsumD (w : List Int) (f : List Bool) (R D : Int) : Nat → Nat → Int
 | 0, _ => 0
 | d + 1, i => (if rdOf false f (i : Int) = true then 0 else if rd w (i : Int) > 0 then Int.tdiv (R * rd w (i : Int)) D else 0) + qsumD w f R D d (i + 1)
def bsumD (w r : List Int) (f : List Bool) (R D : Int) : Nat → Nat → Int
 | 0, _ => 0
 | d + 1, i => baseD w r f R D i + bsumD w r f R D d (i + 1)
theorem bsum_eq (w r : List Int) (f : List Bool) (R D : Int) : ∀ d i, bsumD w r f R D d i = sumF r f d i + qsumD w f R D d i
 | 0, _ => rfl
 | d + 1, i => by
  unfold bsumD sumF qsumD baseD
  rw [bsum_eq w r f R D d (i + 1)]
  repeat' split
  all_goals omega
theorem plcD_mem (w : List Int) (f : List Bool) : ∀ (d i : Nat) (x : Int), x ∈ plcD w f d i ↔ ∃ a : Nat, x = (a : Int) ∧ i ≤ a ∧ a < i + d ∧ rdOf false f (a : Int) ≠ true ∧ rd w (a : Int) > 0
 | 0, i, x => by
  simp only [plcD, List.not_mem_nil, false_iff]
  rintro ⟨a, _, h1, h2, _⟩
  omega
 | d + 1, i, x => by
  have ih := plcD_mem w f d (i + 1) x
  unfold plcD
  by_cases c : rdOf false f (i : Int) = true
  ·rw [if_pos c, ih]
   constructor
   ·rintro ⟨a, h1, h2, h3, h4⟩; exact ⟨a, h1, by omega, by omega, h4⟩
   ·rintro ⟨a, h1, h2, h3, h4, h5⟩
    by_cases e : a = i
    ·subst e; exact absurd c h4
    ·exact ⟨a, h1, by omega, by omega, h4, h5⟩
  ·rw [if_neg c]
   by_cases c2 : rd w (i : Int) > 0
   ·rw [if_pos c2, List.mem_cons, ih]
    constructor
    ·rintro (e | ⟨a, h1, h2, h3, h4⟩)
     ·exact ⟨i, e, Nat.le_refl _, by omega, c, c2⟩
     ·exact ⟨a, h1, by omega, by omega, h4⟩
    ·rintro ⟨a, h1, h2, h3, h4, h5⟩
     by_cases e : a = i
     ·subst e; exact .inl h1
     ·exact .inr ⟨a, h1, by omega, by omega, h4, h5⟩
   ·rw [if_neg c2, ih]
    constructor
    ·rintro ⟨a, h1, h2, h3, h4⟩; exact ⟨a, h1, by omega, by omega, h4⟩
    ·rintro ⟨a, h1, h2, h3, h4, h5⟩
     by_cases e : a = i
     ·subst e; exact absurd h5 c2
     ·exact ⟨a, h1, by omega, by omega, h4, h5⟩
theorem plcD_len (w : List Int) (f : List Bool) : ∀ d i, (plcD w f d i).length ≤ d
 | 0, _ => Nat.le_refl _
 | d + 1, i => by
  have := plcD_len w f d (i + 1)
  unfold plcD
  repeat' split
  all_goals simp
  all_goals omega
theorem plcD_asc (w : List Int) (f : List Bool) : ∀ d i, (plcD w f d i).Pairwise (· < ·)
 | 0, _ => List.Pairwise.nil
 | d + 1, i => by
  have ih := plcD_asc w f d (i + 1)
  unfold plcD
  split
  ·exact ih
  ·split
   ·refine List.pairwise_cons.mpr ⟨fun x hx => ?_, ih⟩
    obtain ⟨a, e, h, _⟩ := (plcD_mem w f d (i + 1) x).mp hx
    omega
   ·exact ih
theorem prod_bound (w : List Int) (R : Int) (hw : Small w) (hR : 0 ≤ R ∧ R ≤ 160000) (i : Nat) : 0 ≤ R * rd w (i : Int) ∧ R * rd w (i : Int) ≤ 1600000000 := by
 have h := hw i
 exact ⟨Int.mul_nonneg hR.1 h.1, by have := Int.mul_le_mul hR.2 h.2 h.1 (by omega); omega⟩
section
variable (w r : List Int) (f : List Bool) (R D : Int) (hw : Small w) (hr : Small r) (hl : w.length = r.length) (hf : f.length = w.length) (hn : w.length ≤ 16) (hR : 0 ≤ R ∧ R ≤ 160000) (hD : ∀ j : Nat, j < w.length → rdOf false f (j : Int) ≠ true → rd w (j : Int) ≤ D) (hD2 : D ≤ 160000)
include hw hR hD hD2
theorem share_bound (i : Nat) (hi : i < w.length) (h1 : rdOf false f (i : Int) ≠ true) (h2 : rd w (i : Int) > 0) : 0 < D ∧ 0 ≤ Int.tdiv (R * rd w (i : Int)) D ∧ Int.tdiv (R * rd w (i : Int)) D ≤ 160000 ∧ 0 ≤ keyD w R D i := by
 have hp := prod_bound w R hw hR i
 have hd := hD i hi h1
 have hD0 : 0 < D := by omega
 refine ⟨hD0, ?_, ?_, ?_⟩
 ·exact Int.tdiv_nonneg hp.1 (by omega)
 ·rw [Int.tdiv_eq_ediv_of_nonneg hp.1]
  have : R * rd w (i : Int) ≤ R * D := Int.mul_le_mul_of_nonneg_left hd hR.1
  have := Int.ediv_le_of_le_mul hD0 this
  omega
 ·exact Int.tmod_nonneg D hp.1
include hr
theorem base_bound (i : Nat) (hi : i < w.length) : 0 ≤ baseD w r f R D i ∧ baseD w r f R D i ≤ 160000 := by
 unfold baseD
 have := hr i
 by_cases c : rdOf false f (i : Int) = true
 ·rw [if_pos c]; omega
 ·rw [if_neg c]
  by_cases c2 : rd w (i : Int) > 0
  ·rw [if_pos c2]
   have := share_bound w f R D hw hR hD hD2 i hi c c2
   omega
  ·rw [if_neg c2]; omega
include hl hf hn
theorem spec_deal_l0 : ∀ (d i k : Nat) (left : Int), i + d = w.length → left ≤ 1000000000 → -1000000000 + 160000 * d ≤ left → spec_DealOf.l0 (k + d + 1) w r ((List.range i).map (baseD w r f R D)) f R D left ((List.range i).map (overD w f R D)) (i : Int) = spec_DealOf.l1 k ((List.range w.length).map (baseD w r f R D)) (left - qsumD w f R D d i) ((List.range w.length).map (overD w f R D)) := by
 have _ := hr
 intro d
 induction d with
 | zero =>
  intro i k left hi _ _
  obtain rfl : i = w.length := by omega
  rw [Nat.add_zero, spec_DealOf.l0, if_neg (by omega)]
  simp [qsumD]
 | succ d ih =>
  intro i k left hi hleft hlo
  have h1 : (i : Int) < (w.length : Int) := by omega
  have h2 : (0 : Int) ≤ i := by omega
  have h3 : (i : Int) < (f.length : Int) := by omega
  have h4 : (i : Int) < (r.length : Int) := by omega
  have e9 : wrap64 ((i : Int) + 1) = ((i + 1 : Nat) : Int) := by rw [w64 (by omega) (by omega)]; rfl
  have hl1 : ((List.range i).map (baseD w r f R D)).length < 17592186044416 := by simp; omega
  have hl2 : ((List.range i).map (overD w f R D)).length < 17592186044416 := by simp; omega
  have hb : (List.range (i + 1)).map (baseD w r f R D) = (List.range i).map (baseD w r f R D) ++ [baseD w r f R D i] := by rw [List.range_succ, List.map_append]; rfl
  have ho : (List.range (i + 1)).map (overD w f R D) = (List.range i).map (overD w f R D) ++ [overD w f R D i] := by rw [List.range_succ, List.map_append]; rfl
  rw [show k + (d + 1) + 1 = (k + d + 1) + 1 by omega, spec_DealOf.l0, if_pos h1, if_pos h2, if_pos h3]
  by_cases c : rdOf false f (i : Int) = true
  ·have eb : baseD w r f R D i = rd r (i : Int) := by unfold baseD; rw [if_pos c]
   have eo : overD w f R D i = -1 := by unfold overD; rw [if_pos c]
   rw [if_pos c, if_pos h4, if_pos hl1, if_pos hl2, e9, ← eb, ← eo, ← hb, ← ho, ih (i + 1) k left (by omega) hleft (by omega), qsumD, if_pos c]
   congr 1
   omega
  ·by_cases c2 : rd w (i : Int) > 0
   ·have hs := share_bound w f R D hw hR hD hD2 i (by omega) c c2
    have hp := prod_bound w R hw hR i
    have eb : baseD w r f R D i = Int.tdiv (R * rd w (i : Int)) D := by unfold baseD; rw [if_neg c, if_pos c2]
    have eo : overD w f R D i = Int.tmod (R * rd w (i : Int)) D := by unfold overD keyD; rw [if_neg c, if_pos c2]
    have e1 : wrap64 (R * rd w (i : Int)) = R * rd w (i : Int) := w64 (by omega) (by omega)
    have e2 : wrap64 (Int.tdiv (R * rd w (i : Int)) D) = Int.tdiv (R * rd w (i : Int)) D := w64 (by omega) (by omega)
    have e3 : wrap64 (left - Int.tdiv (R * rd w (i : Int)) D) = left - Int.tdiv (R * rd w (i : Int)) D := w64 (by omega) (by omega)
    have hD0 : ¬ D = 0 := by omega
    rw [if_neg c, if_pos c2, if_neg hD0, if_pos hl1, if_pos hl2, e1, e2, e3, e9, ← eo, ← ho]
    have hih := ih (i + 1) k (left - Int.tdiv (R * rd w (i : Int)) D) (by omega) (by omega) (by omega)
    rw [hb, eb] at hih
    rw [hih, qsumD, if_neg c, if_pos c2]
    congr 1
    omega
   ·have eb : baseD w r f R D i = 0 := by unfold baseD; rw [if_neg c, if_neg c2]
    have eo : overD w f R D i = -1 := by unfold overD; rw [if_neg c, if_neg c2]
    rw [if_neg c, if_neg c2, if_pos hl1, if_pos hl2, e9, ← eo, ← ho]
    have hih := ih (i + 1) k left (by omega) hleft (by omega)
    rw [hb, eb] at hih
    rw [hih, qsumD, if_neg c, if_neg c2]
    congr 1
    omega
theorem impl_deal_l0 : ∀ (d i k : Nat) (places : List Int) (rest : Int), i + d = w.length → places.length ≤ i → rest ≤ 1000000000 → -1000000000 + 160000 * d ≤ rest → impl_DealOf.l0 (k + d + 1) r f ((List.range w.length).map fun j => if j < i then baseD w r f R D j else 0) places rest (w.length : Int) (i : Int) w R D = ((hof_DealOf.f (places ++ plcD w f d i) R w D).bind fun t348 => (if 0 ≤ (mx 0 (mn (rest - bsumD w r f R D d i) ((places ++ plcD w f d i).length : Int))) then (if (mx 0 (mn (rest - bsumD w r f R D d i) ((places ++ plcD w f d i).length : Int))) ≤ ((places ++ plcD w f d i).length : Int) then ((some (t348.take ((mx 0 (mn (rest - bsumD w r f R D d i) ((places ++ plcD w f d i).length : Int))) : Int).toNat : List Int)).bind fun y349 => (impl_DealOf.l1 k ((List.range w.length).map (baseD w r f R D)) y349 (y349.length : Int) 0)) else (none)) else (none))) := by
 intro d
 induction d with
 | zero =>
  intro i k places rest hi _ _ _
  obtain rfl : i = w.length := by omega
  have hm : ((List.range w.length).map fun j => if j < w.length then baseD w r f R D j else 0) = (List.range w.length).map (baseD w r f R D) := by
   refine List.map_congr_left fun j hj => ?_
   rw [if_pos (List.mem_range.mp hj)]
  rw [hm, Nat.add_zero, impl_DealOf.l0, if_neg (by omega)]
  simp only [plcD, bsumD, List.append_nil, Int.sub_zero]
 | succ d ih =>
  intro i k places rest hi hpl hrest hlo
  have h1 : (i : Int) < (w.length : Int) := by omega
  have h2 : (0 : Int) ≤ i := by omega
  have h3 : (i : Int) < (f.length : Int) := by omega
  have h4 : (i : Int) < (r.length : Int) := by omega
  have e9 : wrap64 ((i : Int) + 1) = ((i + 1 : Nat) : Int) := by rw [w64 (by omega) (by omega)]; rfl
  have h5 : (i : Int) < (((List.range w.length).map fun j => if j < i then baseD w r f R D j else 0).length : Int) := by simp; omega
  have hset : ∀ x, x = baseD w r f R D i → ((List.range w.length).map fun j => if j < i then baseD w r f R D j else 0).set i x = (List.range w.length).map fun j => if j < i + 1 then baseD w r f R D j else 0 := fun x hx => by
   refine map_set w.length _ _ i x ?_ ?_
   ·rw [hx, if_pos (by omega)]
   ·intro j hj
    by_cases c : j < i
    ·rw [if_pos c, if_pos (by omega)]
    ·rw [if_neg c, if_neg (by omega)]
  have hrd : rd ((List.range w.length).map fun j => if j < i + 1 then baseD w r f R D j else 0) (i : Int) = baseD w r f R D i := by
   rw [rd_map w.length _ i (by omega), if_pos (by omega)]
  have hbb := base_bound w r f R D hw hr hR hD hD2 i (by omega)
  have e8 : wrap64 (rest - baseD w r f R D i) = rest - baseD w r f R D i := w64 (by omega) (by omega)
  rw [show k + (d + 1) + 1 = (k + d + 1) + 1 by omega, impl_DealOf.l0, if_pos h1, if_pos h2, if_pos h3]
  by_cases c : rdOf false f (i : Int) = true
  ·have eb : rd r (i : Int) = baseD w r f R D i := by unfold baseD; rw [if_pos c]
   rw [if_pos c, if_pos h4, if_pos h5, Option.bind_some, Int.toNat_natCast, hset _ eb, hrd, e8, e9, ih (i + 1) k places (rest - baseD w r f R D i) (by omega) (by omega) (by omega) (by omega), plcD, if_pos c, bsumD, Int.sub_sub]
  ·rw [if_neg c, if_pos h1]
   by_cases c2 : rd w (i : Int) > 0
   ·have hs := share_bound w f R D hw hR hD hD2 i (by omega) c c2
    have hp := prod_bound w R hw hR i
    have eb : Int.tdiv (R * rd w (i : Int)) D = baseD w r f R D i := by unfold baseD; rw [if_neg c, if_pos c2]
    have e1 : wrap64 (R * rd w (i : Int)) = R * rd w (i : Int) := w64 (by omega) (by omega)
    have e2 : wrap64 (Int.tdiv (R * rd w (i : Int)) D) = Int.tdiv (R * rd w (i : Int)) D := w64 (by omega) (by omega)
    have hD0 : ¬ D = 0 := by omega
    rw [if_pos c2, if_neg hD0, if_pos h5, Option.bind_some, if_pos (by omega), Int.toNat_natCast, e1, e2, hset _ eb, hrd, e8, e9, ih (i + 1) k (places ++ [(i : Int)]) (rest - baseD w r f R D i) (by omega) (by simp; omega) (by omega) (by omega), plcD, if_neg c, if_pos c2, bsumD, Int.sub_sub, List.append_assoc, List.singleton_append]
   ·have eb : (0 : Int) = baseD w r f R D i := by unfold baseD; rw [if_neg c, if_neg c2]
    have hrd0 : rd ((List.range w.length).map fun j => if j < i then baseD w r f R D j else 0) (i : Int) = baseD w r f R D i := by
     rw [rd_map w.length _ i (by omega), if_neg (by omega), eb]
    have hsame : ((List.range w.length).map fun j => if j < i then baseD w r f R D j else 0) = (List.range w.length).map fun j => if j < i + 1 then baseD w r f R D j else 0 := by
     refine List.map_congr_left fun j hj => ?_
     by_cases e : j = i
     ·subst e; rw [if_neg (by omega), if_pos (by omega), eb]
     ·by_cases c3 : j < i
      ·rw [if_pos c3, if_pos (by omega)]
      ·rw [if_neg c3, if_neg (by omega)]
    rw [if_neg c2, if_pos h5, hrd0, e8, e9, hsame, ih (i + 1) k places (rest - baseD w r f R D i) (by omega) (by omega) (by omega) (by omega), plcD, if_neg c, if_neg c2, bsumD, Int.sub_sub]
end
end Go.Proofs.Ytannkhefallkhaa.Pure
/- DealOf: what the program and the reference answer. -/
namespace Go.Proofs.Ytannkhefallkhaa.Pure
open Go.RowKit Go.Proofs.Ytannkhefallkhaa.Q Go.Proofs.YtannkhefallkhaaW.PrintWords Go.Proofs.YtannkhefallkhaaW.PrintLast Go.Proofs.YtannkhefallkhaaW.PrintMore
def sortD (w : List Int) (f : List Bool) (R D : Int) : List Int := stabQ (fun x => restQ R w D (clampQ w.length x)) (plcD w f w.length 0)
theorem key_eq (w : List Int) (R D : Int) (hw : Small w) (hR : 0 ≤ R ∧ R ≤ 160000) (a : Nat) (ha : a < w.length) : restQ R w D (clampQ w.length (a : Int)) = keyD w R D a := by
 have hp := prod_bound w R hw hR a
 unfold restQ clampQ keyD
 rw [if_pos (by omega), w64 (by omega) (by omega)]
theorem sortD_spec (w : List Int) (f : List Bool) (R D : Int) (hw : Small w) (hR : 0 ≤ R ∧ R ≤ 160000) : (sortD w f R D).Perm (plcD w f w.length 0) ∧ Ordered (keyD w R D) w.length (sortD w f R D) := by
 have hasc := plcD_asc w f w.length 0
 have hmem := plcD_mem w f w.length 0
 have hmono : ∀ p q, p < q → q < (plcD w f w.length 0).toArray.size → ((plcD w f w.length 0).toArray[p]!).toNat < ((plcD w f w.length 0).toArray[q]!).toNat := by
  intro p q hpq hq
  have hq' : q < (plcD w f w.length 0).length := by simpa using hq
  have h1 := List.pairwise_iff_getElem.mp hasc p q (by omega) hq' hpq
  obtain ⟨a, ea, _⟩ := (hmem _).mp (List.getElem_mem (show p < (plcD w f w.length 0).length by omega))
  rw [getElem!_pos _ p (by simp; omega), getElem!_pos _ q hq]
  simp only [List.getElem_toArray]
  omega
 obtain ⟨h1, h2⟩ := insertionSort_key (fun x => restQ R w D (clampQ w.length x)) Int.toNat (plcD w f w.length 0).toArray hmono
 have e : (Go.Sort.insertionSort (byKey (fun x => restQ R w D (clampQ w.length x))) (plcD w f w.length 0).toArray 0 (plcD w f w.length 0).toArray.size).toList = sortD w f R D := by
  unfold sortD stabQ
  rw [List.size_toArray]
  rfl
 rw [e] at h1 h2
 have hin : ∀ x ∈ sortD w f R D, ∃ a : Nat, x = (a : Int) ∧ a < w.length := fun x hx => by
  obtain ⟨a, ea, _, h, _⟩ := (hmem x).mp (h1.mem_iff.mp hx)
  exact ⟨a, ea, by omega⟩
 refine ⟨h1, fun x hx => ?_, ?_⟩
 ·obtain ⟨a, ea, ha⟩ := hin x hx
  exact ⟨a, ea, ha, Int.tmod_nonneg D (prod_bound w R hw hR a).1⟩
 ·refine List.Pairwise.imp_of_mem (fun {x y} hx hy h => ?_) h2
  obtain ⟨a, rfl, ha⟩ := hin x hx
  obtain ⟨b, rfl, hb⟩ := hin y hy
  rw [key_eq w R D hw hR a ha, key_eq w R D hw hR b hb] at h
  simp only [Int.toNat_natCast] at h ⊢
  omega
def dealL (w r : List Int) (t : Int) : List Int := if DOk w r t = true then outAt (baseD w r (fullL w r t) (left2 w r t (fullL w r t)).1 (left2 w r t (fullL w r t)).2) w.length ((sortD w (fullL w r t) (left2 w r t (fullL w r t)).1 (left2 w r t (fullL w r t)).2).take (more ((left2 w r t (fullL w r t)).1 - qsumD w (fullL w r t) (left2 w r t (fullL w r t)).1 (left2 w r t (fullL w r t)).2 w.length 0) (sortD w (fullL w r t) (left2 w r t (fullL w r t)).1 (left2 w r t (fullL w r t)).2).length)) else []
theorem outAt_nil (base : Nat → Int) (n : Nat) : outAt base n [] = (List.range n).map base := by
 unfold outAt
 exact List.map_congr_left fun i _ => by simp
section
variable (w r : List Int) (f : List Bool) (R D : Int) (hw : Small w) (hr : Small r) (hl : w.length = r.length) (hf : f.length = w.length) (hn : w.length ≤ 16) (hR : 0 ≤ R ∧ R ≤ 160000) (hD : ∀ j : Nat, j < w.length → rdOf false f (j : Int) ≠ true → rd w (j : Int) ≤ D) (hD2 : D ≤ 160000)
include hw hR
theorem over_rest : (List.range w.length).map (overD w f R D) = restAt (keyD w R D) w.length (sortD w f R D) := by
 obtain ⟨hp, _⟩ := sortD_spec w f R D hw hR
 unfold restAt
 refine List.map_congr_left fun i hi => ?_
 have hi' := List.mem_range.mp hi
 have hiff : (i : Int) ∈ sortD w f R D ↔ rdOf false f (i : Int) ≠ true ∧ rd w (i : Int) > 0 := by
  rw [hp.mem_iff, plcD_mem]
  constructor
  ·rintro ⟨a, e, _, _, h⟩
   obtain rfl : i = a := Int.ofNat.inj e
   exact h
  ·rintro h
   exact ⟨i, rfl, Nat.zero_le _, by omega, h⟩
 unfold overD
 by_cases c : rdOf false f (i : Int) = true
 ·rw [if_pos c, if_neg (fun h => (hiff.mp h).1 c)]
 ·rw [if_neg c]
  by_cases c2 : rd w (i : Int) > 0
  ·rw [if_pos c2, if_pos (hiff.mpr ⟨c, c2⟩)]
  ·rw [if_neg c2, if_neg (fun h => c2 (hiff.mp h).2)]
include hD hD2
theorem qsum_bound : ∀ d i, i + d ≤ w.length → 0 ≤ qsumD w f R D d i ∧ qsumD w f R D d i ≤ 160000 * d := by
 intro d
 induction d with
 | zero => intro i _; simp [qsumD]
 | succ d ih =>
  intro i hi
  have h := ih (i + 1) (by omega)
  unfold qsumD
  by_cases c : rdOf false f (i : Int) = true
  ·rw [if_pos c]; omega
  ·rw [if_neg c]
   by_cases c2 : rd w (i : Int) > 0
   ·rw [if_pos c2]
    have := share_bound w f R D hw hR hD hD2 i (by omega) c c2
    omega
   ·rw [if_neg c2]; omega
include hr hl hf hn
theorem spec_deal : ∃ K, ∀ k, K ≤ k → spec_DealOf.l0 k w r [] f R D R [] 0 = some (outAt (baseD w r f R D) w.length ((sortD w f R D).take (more (R - qsumD w f R D w.length 0) (sortD w f R D).length))) := by
 have hq := qsum_bound w f R D hw hR hD hD2 w.length 0 (by omega)
 have hb : ∀ i, -1000000 ≤ (fun i => if i < w.length then baseD w r f R D i else 0) i ∧ (fun i => if i < w.length then baseD w r f R D i else 0) i ≤ 1000000 := fun i => by
  show -1000000 ≤ (if i < w.length then baseD w r f R D i else 0) ∧ (if i < w.length then baseD w r f R D i else 0) ≤ 1000000
  by_cases c : i < w.length
  ·rw [if_pos c]
   have := base_bound w r f R D hw hr hR hD hD2 i c
   omega
  ·rw [if_neg c]; omega
 have hcut : ∀ l, outAt (fun i => if i < w.length then baseD w r f R D i else 0) w.length l = outAt (baseD w r f R D) w.length l := fun l => by
  unfold outAt
  exact List.map_congr_left fun i hi => by dsimp only; rw [if_pos (List.mem_range.mp hi)]
 obtain ⟨_, ho⟩ := sortD_spec w f R D hw hR
 obtain ⟨K, h⟩ := deal_spec_l1 (fun i => if i < w.length then baseD w r f R D i else 0) (keyD w R D) w.length hn hb (sortD w f R D) [] (R - qsumD w f R D w.length 0) ho (fun x _ => by simp) (by omega)
 refine ⟨K + w.length + 1, fun k hk => ?_⟩
 obtain ⟨k, rfl⟩ : ∃ m, k = m + w.length + 1 := ⟨k - w.length - 1, by omega⟩
 have h0 := spec_deal_l0 w r f R D hw hr hl hf hn hR hD hD2 w.length 0 k R (by omega) (by omega) (by omega)
 rw [show ((0 : Nat) : Int) = 0 from rfl] at h0
 have h1 := h k (by omega)
 rw [List.nil_append, hcut, hcut, outAt_nil, ← over_rest w f R D hw hR] at h1
 have e : (List.range 0).map (baseD w r f R D) = [] := rfl
 have e2 : (List.range 0).map (overD w f R D) = [] := rfl
 rw [e, e2] at h0
 rw [h0]
 exact h1
theorem impl_deal (t : Int) (ht : 0 ≤ t ∧ t ≤ 160000) (hRt : R = t - sumF r f w.length 0) : ∃ K, ∀ k, K ≤ k → impl_DealOf.l0 k r f (List.replicate w.length 0) [] t (w.length : Int) 0 w R D = some (outAt (baseD w r f R D) w.length ((sortD w f R D).take (more (R - qsumD w f R D w.length 0) (sortD w f R D).length))) := by
 have hpl := plcD_len w f w.length 0
 obtain ⟨hp, ho⟩ := sortD_spec w f R D hw hR
 have hlen := hp.length_eq
 have hb : ∀ i, -1000000 ≤ (fun i => if i < w.length then baseD w r f R D i else 0) i ∧ (fun i => if i < w.length then baseD w r f R D i else 0) i ≤ 1000000 := fun i => by
  show -1000000 ≤ (if i < w.length then baseD w r f R D i else 0) ∧ (if i < w.length then baseD w r f R D i else 0) ≤ 1000000
  by_cases c : i < w.length
  ·rw [if_pos c]
   have := base_bound w r f R D hw hr hR hD hD2 i c
   omega
  ·rw [if_neg c]; omega
 have hcut : ∀ l, outAt (fun i => if i < w.length then baseD w r f R D i else 0) w.length l = outAt (baseD w r f R D) w.length l := fun l => by
  unfold outAt
  exact List.map_congr_left fun i hi => by dsimp only; rw [if_pos (List.mem_range.mp hi)]
 have hcond : (∀ x ∈ plcD w f w.length 0, 0 ≤ x ∧ x < (w.length : Int)) ∧ (0 < (plcD w f w.length 0).length → 0 < D ∧ D ≤ 4611686018427387904) ∧ (plcD w f w.length 0).length < 20 := by
  refine ⟨fun x hx => ?_, fun h => ?_, by omega⟩
  ·obtain ⟨a, e, _, h, _⟩ := (plcD_mem w f w.length 0 x).mp hx
   omega
  ·have hne : ∃ x, x ∈ plcD w f w.length 0 := by
    match hq : plcD w f w.length 0, h with
    | x :: _, _ => exact ⟨x, List.mem_cons_self⟩
   obtain ⟨x, hx⟩ := hne
   obtain ⟨a, e, _, h1, h2, h3⟩ := (plcD_mem w f w.length 0 x).mp hx
   have := share_bound w f R D hw hR hD hD2 a (by omega) h2 h3
   omega
 have hhof : hof_DealOf.f (plcD w f w.length 0) R w D = some (sortD w f R D) := by
  unfold hof_DealOf.f
  rw [if_pos hcond]
  rfl
 have hrest : t - bsumD w r f R D w.length 0 = R - qsumD w f R D w.length 0 := by
  rw [bsum_eq, hRt]
  omega
 obtain ⟨K, h⟩ := deal_impl_l1 (fun i => if i < w.length then baseD w r f R D i else 0) w.length hb ((sortD w f R D).take (more (R - qsumD w f R D w.length 0) (sortD w f R D).length)) (fun x hx => by
   obtain ⟨a, e, ha, _⟩ := ho.1 x (List.mem_of_mem_take hx)
   exact ⟨a, e, ha⟩) (List.Pairwise.sublist (List.take_sublist _ _) ho.nodup) (by rw [List.length_take]; omega) _ 0 (Nat.zero_add _)
 refine ⟨K + w.length + 1, fun k hk => ?_⟩
 obtain ⟨k, rfl⟩ : ∃ m, k = m + w.length + 1 := ⟨k - w.length - 1, by omega⟩
 have h0 := impl_deal_l0 w r f R D hw hr hl hf hn hR hD hD2 w.length 0 k [] t (by omega) (Nat.le_refl _) (by omega) (by omega)
 have hz : ((List.range w.length).map fun j => if j < 0 then baseD w r f R D j else 0) = List.replicate w.length 0 := by
  apply List.ext_getElem
  ·simp
  ·intro i h1 h2; simp
 have hm := more_eq (R - qsumD w f R D w.length 0) (sortD w f R D).length
 have hmx : mx 0 (mn (R - qsumD w f R D w.length 0) ((plcD w f w.length 0).length : Int)) = (more (R - qsumD w f R D w.length 0) (sortD w f R D).length : Int) := by
  rw [hm, hlen]
  unfold mx mn
  repeat' split
  all_goals omega
 rw [show ((0 : Nat) : Int) = 0 from rfl, hz, List.nil_append, hhof, hrest, Option.bind_some, hmx, if_pos (by omega), if_pos (by rw [hm, ← hlen]; repeat' split; all_goals omega), Option.bind_some, Int.toNat_natCast] at h0
 have h1 := h k (by omega)
 rw [List.take_zero, hcut, hcut, outAt_nil, show ((0 : Nat) : Int) = 0 from rfl] at h1
 rw [h0]
 exact h1
end
theorem deal_ev (w r : List Int) (t : Int) (hwl : w.length ≤ 1048576) (hrl : r.length ≤ 1048576) : ∃ K, ∀ k, K ≤ k → spec_DealOf.f k w r t = some (dealL w r t) ∧ impl_DealOf.f k w r t = some (dealL w r t) := by
 obtain ⟨K1, h1⟩ := specFull_ev w r t hwl hrl
 obtain ⟨K2, h2⟩ := implFull_ev w r t hwl
 have h3 := fun k hk => specDealOk_ev w r t hwl hrl k hk
 have h4 := fun k hk => implDealOk_ev w r t hwl k hk
 by_cases hd : DOk w r t = true
 ·obtain ⟨hw, hr, hl, hn, ht0, ht1, hR0, hR1⟩ := DOk_facts w r t hd
  have hf := fullL_length w r t hd
  have hN := sumN_bound w hw (fullL w r t) w.length 0
  have hD : ∀ j : Nat, j < w.length → rdOf false (fullL w r t) (j : Int) ≠ true → rd w (j : Int) ≤ (left2 w r t (fullL w r t)).2 := fun j hj hc => sumN_one w hw _ w.length 0 j (Nat.zero_le _) (by omega) hc
  have hD2 : (left2 w r t (fullL w r t)).2 ≤ 160000 := by show sumN w (fullL w r t) w.length 0 ≤ 160000; omega
  obtain ⟨K3, q1⟩ := spec_deal w r (fullL w r t) _ _ hw hr hl hf hn ⟨hR0, hR1⟩ hD hD2
  obtain ⟨K4, q2⟩ := impl_deal w r (fullL w r t) _ _ hw hr hl hf hn ⟨hR0, hR1⟩ hD hD2 t ⟨ht0, ht1⟩ rfl
  have hrest := restL_left2 w r hw hr t ⟨ht0, by omega⟩ hn (fullL w r t)
  refine ⟨K1 + K2 + K3 + K4 + w.length + r.length + 3, fun k hk => ?_⟩
  have e1 := specRest_l0 w r (fullL w r t) hl.symm hf hn w.length 0 k t 0 (by omega) (by omega)
  have e2 := implLeft_l0 w r (fullL w r t) hl.symm hf hn w.length 0 k t 0 (by omega) (by omega)
  rw [hrest, show ((0 : Nat) : Int) = 0 from rfl] at e1 e2
  unfold dealL
  rw [if_pos hd]
  constructor
  ·unfold spec_DealOf.f
   rw [Option.bind_some, h3 k (by omega), Option.bind_some, if_pos hd, h1 k (by omega), Option.bind_some]
   unfold spec_l18Rest.f
   rw [e1, Option.bind_some]
   exact q1 k (by omega)
  ·unfold impl_DealOf.f
   rw [h4 k (by omega), Option.bind_some, if_pos hd, h2 k (by omega), Option.bind_some]
   unfold impl_left.f
   rw [e2, Option.bind_some, if_pos (by omega), if_pos (by omega), Option.bind_some, Int.toNat_natCast, List.length_replicate]
   exact q2 k (by omega)
 ·refine ⟨K1 + K2 + w.length + r.length + 3, fun k hk => ?_⟩
  unfold dealL spec_DealOf.f impl_DealOf.f
  rw [if_neg hd, Option.bind_some, h3 k (by omega), h4 k (by omega), Option.bind_some, Option.bind_some, if_neg hd, if_neg hd]
  exact ⟨rfl, rfl⟩
end Go.Proofs.Ytannkhefallkhaa.Pure
/- What a deal is like: which places are full, what is left, what each gets. -/
namespace Go.Proofs.Ytannkhefallkhaa.Pure
open Go.RowKit Go.Proofs.Ytannkhefallkhaa.Q Go.Proofs.YtannkhefallkhaaW.PrintWords Go.Proofs.YtannkhefallkhaaW.PrintLast Go.Proofs.YtannkhefallkhaaW.PrintMore
theorem rounds_end (w r : List Int) (t : Int) : ∀ (m : Nat) (f : List Bool), f.length = w.length → w.length - count f ≤ m → round w r t (rounds w r t m f) = rounds w r t m f
 | m, f, hf, hc => by
  have hu : upd w r (restL w r f w.length 0 t 0).1 (restL w r f w.length 0 t 0).2 w.length 0 f = round w r t f := rfl
  obtain ⟨h1, h2, h3⟩ := chg_tells w r (restL w r f w.length 0 t 0).1 (restL w r f w.length 0 t 0).2 w.length 0 f false (by omega)
  rw [hu] at h1 h2 h3
  have hrl := round_length w r t f
  have hgl := count_le (round w r t f)
  cases hb : chg w r (restL w r f w.length 0 t 0).1 (restL w r f w.length 0 t 0).2 w.length 0 f false with
  | false =>
   have hfix := (h1 hb).2
   rw [rounds_fix w r t f hfix, hfix]
  | true =>
   have hlt : count f < count (round w r t f) := (h3 hb).resolve_left (by decide)
   match m with
   | 0 => exfalso; omega
   | m + 1 =>
    unfold rounds
    exact rounds_end w r t m (round w r t f) (by rw [hrl]; exact hf) (by omega)
theorem fullL_fix (w r : List Int) (t : Int) (h : DOk w r t = true) : round w r t (fullL w r t) = fullL w r t := by
 unfold fullL
 rw [if_pos h]
 exact rounds_end w r t _ _ (by simp) (by omega)
theorem upd_pos (w r : List Int) (x y : Int) (f : List Bool) (n j : Nat) (hj : j < f.length) (h : rdOf false (upd w r x y n 0 f) (j : Int) = true) : rdOf false f (j : Int) = true ∨ 0 < rd w (j : Int) := by
 rw [upd_get w r x y n 0 f j hj] at h
 split at h
 ·rcases Bool.or_eq_true _ _ ▸ h with e | e
  ·exact .inl e
  ·right
   unfold turns at e
   simp only [Bool.and_eq_true, decide_eq_true_eq] at e
   omega
 ·exact .inl h
theorem rounds_pos (w r : List Int) (t : Int) (j : Nat) (hj : j < w.length) : ∀ (m : Nat) (f : List Bool), f.length = w.length → (rdOf false f (j : Int) = true → 0 < rd w (j : Int)) → rdOf false (rounds w r t m f) (j : Int) = true → 0 < rd w (j : Int)
 | 0, f, _, h0, h => h0 h
 | m + 1, f, hf, h0, h => by
  unfold rounds at h
  refine rounds_pos w r t j hj m (round w r t f) (by rw [round_length]; exact hf) (fun h1 => ?_) h
  exact (upd_pos w r _ _ f _ j (by omega) h1).elim h0 id
theorem fullL_pos (w r : List Int) (t : Int) (h : DOk w r t = true) (j : Nat) (hj : j < w.length) (hf : rdOf false (fullL w r t) (j : Int) = true) : 0 < rd w (j : Int) := by
 unfold fullL at hf
 rw [if_pos h] at hf
 refine rounds_pos w r t j hj _ _ (by simp) (fun h0 => ?_) hf
 rw [rdOf_get _ j (by simpa using hj)] at h0
 simp at h0
theorem fullL_rest (w r : List Int) (t : Int) (h : DOk w r t = true) (j : Nat) (hj : j < w.length) (hf : rdOf false (fullL w r t) (j : Int) ≠ true) (hw : 0 < rd w (j : Int)) : (left2 w r t (fullL w r t)).1 * rd w (j : Int) < (left2 w r t (fullL w r t)).2 * rd r (j : Int) := by
 obtain ⟨hsw, hsr, hl, hn, ht0, ht1, hR0, hR1⟩ := DOk_facts w r t h
 have hlen := fullL_length w r t h
 have hfix := fullL_fix w r t h
 have hbN := sumN_bound w hsw (fullL w r t) w.length 0
 unfold round at hfix
 rw [restL_left2 w r hsw hsr t (by omega) hn] at hfix
 have hg := upd_get w r (left2 w r t (fullL w r t)).1 (left2 w r t (fullL w r t)).2 w.length 0 (fullL w r t) j (by omega)
 rw [hfix, if_pos (by omega)] at hg
 have ht : ¬ turns w r (left2 w r t (fullL w r t)).1 (left2 w r t (fullL w r t)).2 (fullL w r t) j = true := fun e => by
  rw [e, Bool.or_true] at hg
  exact hf hg
 rw [turns_iff w r hsw hsr _ _ (by omega) (by unfold left2; omega)] at ht
 have hf' : rdOf false (fullL w r t) (j : Int) = false := by simpa using hf
 exact Int.not_le.mp fun e => ht ⟨hf', hw, e⟩
def sumW (w r : List Int) : Nat → Nat → Int
 | 0, _ => 0
 | d + 1, i => (if rd w (i : Int) > 0 then rd r (i : Int) else 0) + sumW w r d (i + 1)
def sumU (w r : List Int) (f : List Bool) : Nat → Nat → Int
 | 0, _ => 0
 | d + 1, i => (if rdOf false f (i : Int) = true then 0 else if rd w (i : Int) > 0 then rd r (i : Int) else 0) + sumU w r f d (i + 1)
theorem roomSum_eq (w r : List Int) (hr : Small r) (d : Nat) : ∀ (i : Nat) (acc : Int), d ≤ 16 → 0 ≤ acc → acc ≤ 1000000 - 10000 * d → roomSum w r d i acc = acc + sumW w r d i := by
 induction d with
 | zero => intro i acc _ _ _; simp [roomSum, sumW]
 | succ d ih =>
  intro i acc hd h1 h2
  have hri := hr i
  unfold roomSum sumW
  by_cases c : rd w (i : Int) > 0
  ·rw [if_pos c, if_pos c, w64 (by omega) (by omega), ih (i + 1) _ (by omega) (by omega) (by omega)]
   omega
  ·rw [if_neg c, if_neg c, ih (i + 1) acc (by omega) h1 (by omega)]
   omega
theorem sumW_parts (w r : List Int) (f : List Bool) (n : Nat) (hp : ∀ j : Nat, j < n → rdOf false f (j : Int) = true → 0 < rd w (j : Int)) : ∀ d i, i + d ≤ n → sumW w r d i = sumF r f d i + sumU w r f d i
 | 0, _, _ => rfl
 | d + 1, i, h => by
  have ih := sumW_parts w r f n hp d (i + 1) (by omega)
  unfold sumW sumF sumU
  by_cases c : rdOf false f (i : Int) = true
  ·have := hp i (by omega) c
   rw [if_pos c, if_pos c, if_pos this]
   omega
  ·rw [if_neg c, if_neg c]
   omega
theorem dealL_get (w r : List Int) (t : Int) (h : DOk w r t = true) (i : Nat) (hi : i < w.length) : rd (dealL w r t) (i : Int) = baseD w r (fullL w r t) (left2 w r t (fullL w r t)).1 (left2 w r t (fullL w r t)).2 i + if (i : Int) ∈ (sortD w (fullL w r t) (left2 w r t (fullL w r t)).1 (left2 w r t (fullL w r t)).2).take (more ((left2 w r t (fullL w r t)).1 - qsumD w (fullL w r t) (left2 w r t (fullL w r t)).1 (left2 w r t (fullL w r t)).2 w.length 0) (sortD w (fullL w r t) (left2 w r t (fullL w r t)).1 (left2 w r t (fullL w r t)).2).length) then 1 else 0 := by
 unfold dealL
 rw [if_pos h]
 unfold outAt
 rw [rd_map w.length _ i hi]
theorem dealL_length (w r : List Int) (t : Int) (h : DOk w r t = true) : (dealL w r t).length = w.length := by
 unfold dealL
 rw [if_pos h, outAt_length]
end Go.Proofs.Ytannkhefallkhaa.Pure
/- A deal is fair: what each gets, and all together. -/
namespace Go.Proofs.Ytannkhefallkhaa.Pure
open Go.RowKit Go.Proofs.Ytannkhefallkhaa.Q Go.Proofs.YtannkhefallkhaaW.PrintWords Go.Proofs.YtannkhefallkhaaW.PrintLast Go.Proofs.YtannkhefallkhaaW.PrintMore
def psum (p : List Int) : Nat → Nat → Int
 | 0, _ => 0
 | d + 1, i => rd p (i : Int) + psum p d (i + 1)
def cnt (l : List Int) : Nat → Nat → Int
 | 0, _ => 0
 | d + 1, i => (if (i : Int) ∈ l then 1 else 0) + cnt l d (i + 1)
theorem cnt_nil : ∀ d i, cnt [] d i = 0
 | 0, _ => rfl
 | d + 1, i => by unfold cnt; rw [cnt_nil d (i + 1)]; simp
theorem cnt_cons (a : Nat) (l : List Int) (ha : (a : Int) ∉ l) : ∀ d i, cnt ((a : Int) :: l) d i = cnt l d i + if i ≤ a ∧ a < i + d then 1 else 0
 | 0, i => by rw [if_neg (by omega)]; rfl
 | d + 1, i => by
  unfold cnt
  rw [cnt_cons a l ha d (i + 1)]
  by_cases e : i = a
  ·subst e
   rw [if_pos List.mem_cons_self, if_neg ha, if_neg (by omega), if_pos (by omega)]
   omega
  ·have h : ((i : Int) ∈ (a : Int) :: l) ↔ (i : Int) ∈ l := by
    rw [List.mem_cons]
    exact ⟨fun h => h.elim (fun e2 => absurd (Int.ofNat.inj e2) e) id, .inr⟩
   simp only [h]
   by_cases c : i + 1 ≤ a ∧ a < i + 1 + d
   ·rw [if_pos c, if_pos (show i ≤ a ∧ a < i + (d + 1) by omega)]; omega
   ·rw [if_neg c, if_neg (show ¬ (i ≤ a ∧ a < i + (d + 1)) by omega)]; omega
theorem cnt_all (n : Nat) : ∀ l : List Int, l.Nodup → (∀ x ∈ l, ∃ a : Nat, x = (a : Int) ∧ a < n) → cnt l n 0 = (l.length : Int)
 | [], _, _ => cnt_nil n 0
 | x :: l, hn, hm => by
  obtain ⟨a, rfl, ha⟩ := hm x List.mem_cons_self
  have h := List.nodup_cons.mp hn
  rw [cnt_cons a l h.1, if_pos (by omega), cnt_all n l h.2 (fun y hy => hm y (List.mem_cons_of_mem _ hy)), List.length_cons]
  omega
section
variable (w r : List Int) (f : List Bool) (R D : Int) (hw : Small w) (hR : 0 ≤ R ∧ R ≤ 160000) (hD : ∀ j : Nat, j < w.length → rdOf false f (j : Int) ≠ true → rd w (j : Int) ≤ D) (hD2 : D ≤ 160000)
theorem plc_none : ∀ d i, plcD w f d i = [] → qsumD w f R D d i = 0
 | 0, _, _ => rfl
 | d + 1, i, h => by
  unfold plcD at h
  unfold qsumD
  by_cases c : rdOf false f (i : Int) = true
  ·rw [if_pos c] at h ⊢
   rw [plc_none d (i + 1) h]; rfl
  ·rw [if_neg c] at h ⊢
   by_cases c2 : rd w (i : Int) > 0
   ·rw [if_pos c2] at h
    cases h
   ·rw [if_neg c2] at h ⊢
    rw [plc_none d (i + 1) h]; rfl
include hw hR hD hD2
theorem key_sums : ∀ d i, i + d ≤ w.length → D * qsumD w f R D d i ≤ R * sumN w f d i ∧ R * sumN w f d i ≤ D * qsumD w f R D d i + (D - 1) * ((plcD w f d i).length : Int)
 | 0, i, _ => by simp [qsumD, sumN, plcD]
 | d + 1, i, hi => by
  obtain ⟨h1, h2⟩ := key_sums d (i + 1) (by omega)
  have hwi := hw i
  unfold qsumD sumN plcD
  by_cases c : rdOf false f (i : Int) = true
  ·rw [if_pos c, if_pos c, if_pos c, Int.zero_add, Int.zero_add]
   exact ⟨h1, h2⟩
  ·rw [if_neg c, if_neg c, if_neg c]
   by_cases c2 : rd w (i : Int) > 0
   ·have hs := share_bound w f R D hw hR hD hD2 i (by omega) c c2
    have hp := prod_bound w R hw hR i
    have e1 := Int.mul_tdiv_add_tmod (R * rd w (i : Int)) D
    have e2 := Int.tmod_nonneg D hp.1
    have e3 := Int.tmod_lt_of_pos (R * rd w (i : Int)) hs.1
    rw [if_pos c2, if_pos c2, Int.mul_add, Int.mul_add, List.length_cons, show (((plcD w f d (i + 1)).length + 1 : Nat) : Int) = ((plcD w f d (i + 1)).length : Int) + 1 by omega, Int.mul_add, Int.mul_one]
    generalize D * Int.tdiv (R * rd w (i : Int)) D = a at *
    generalize (R * rd w (i : Int)).tmod D = b at *
    generalize R * rd w (i : Int) = e at *
    generalize (D - 1) * ((plcD w f d (i + 1)).length : Int) = g at *
    generalize D * qsumD w f R D d (i + 1) = g2 at *
    generalize R * sumN w f d (i + 1) = g3 at *
    omega
   ·have hz : rd w (i : Int) = 0 := by omega
    rw [if_neg c2, if_neg c2, hz, Int.zero_add, Int.zero_add]
    exact ⟨h1, h2⟩
end
theorem base_sum (w r : List Int) (f : List Bool) (R D : Int) (p l : List Int) (n : Nat) (h : ∀ i : Nat, i < n → rd p (i : Int) = baseD w r f R D i + if (i : Int) ∈ l then 1 else 0) : ∀ d i, i + d ≤ n → psum p d i = bsumD w r f R D d i + cnt l d i
 | 0, _, _ => rfl
 | d + 1, i, hi => by
  unfold psum bsumD cnt
  rw [base_sum w r f R D p l n h d (i + 1) (by omega), h i (by omega)]
  omega
theorem taken_first (key : Nat → Int) (n : Nat) (s : List Int) (h : Ordered key n s) (m : Nat) (x y : Int) (hx : x ∈ s) (hy : y ∈ s.take m) (hk : key y.toNat < key x.toNat) : x ∈ s.take m := by
 have hs := List.take_append_drop m s
 rw [← hs] at hx
 rcases List.mem_append.mp hx with e | e
 ·exact e
 ·have hp := h.2
  rw [← hs] at hp
  have := (List.pairwise_append.mp hp).2.2 y hy x e
  omega
structure Fair (w r : List Int) (t : Int) (f : List Bool) (p : List Int) : Prop where
 len : p.length = w.length
 flen : f.length = w.length
 low : ∀ i : Nat, i < w.length → 0 ≤ rd p (i : Int)
 high : ∀ i : Nat, i < w.length → rd p (i : Int) ≤ rd r (i : Int)
 none : ∀ i : Nat, i < w.length → rd w (i : Int) = 0 → rd p (i : Int) = 0
 pos : ∀ i : Nat, i < w.length → rdOf false f (i : Int) = true → 0 < rd w (i : Int)
 full : ∀ i : Nat, i < w.length → rdOf false f (i : Int) = true → rd p (i : Int) = rd r (i : Int)
 more : ∀ i k : Nat, i < w.length → k < w.length → rdOf false f (i : Int) ≠ true → rdOf false f (k : Int) ≠ true → rd w (k : Int) < rd w (i : Int) → rd p (k : Int) ≤ rd p (i : Int)
 like : ∀ i k : Nat, i < w.length → k < w.length → rdOf false f (i : Int) ≠ true → rdOf false f (k : Int) ≠ true → rd w (i : Int) = rd w (k : Int) → rd p (i : Int) ≤ rd p (k : Int) + 1
 sum : psum p w.length 0 = t
theorem deal_fair (w r : List Int) (t : Int) (h : DOk w r t = true) : Fair w r t (fullL w r t) (dealL w r t) := by
 obtain ⟨hsw, hsr, hl, hn, ht0, ht1, hR0, hR1⟩ := DOk_facts w r t h
 have hN := sumN_bound w hsw (fullL w r t) w.length 0
 have hD : ∀ j : Nat, j < w.length → rdOf false (fullL w r t) (j : Int) ≠ true → rd w (j : Int) ≤ (left2 w r t (fullL w r t)).2 := fun j hj hc => sumN_one w hsw _ w.length 0 j (Nat.zero_le _) (by omega) hc
 have hD2 : (left2 w r t (fullL w r t)).2 ≤ 160000 := by show sumN w (fullL w r t) w.length 0 ≤ 160000; omega
 have hget := fun i hi => dealL_get w r t h i hi
 have hpos := fun j hj hf => fullL_pos w r t h j hj hf
 have hrest := fun j hj hf hw => fullL_rest w r t h j hj hf hw
 obtain ⟨hperm, hord⟩ := sortD_spec w (fullL w r t) (left2 w r t (fullL w r t)).1 (left2 w r t (fullL w r t)).2 hsw ⟨hR0, hR1⟩
 have hkey := key_sums w (fullL w r t) (left2 w r t (fullL w r t)).1 (left2 w r t (fullL w r t)).2 hsw ⟨hR0, hR1⟩ hD hD2 w.length 0 (by omega)
 have hplc := plc_none w (fullL w r t) (left2 w r t (fullL w r t)).1 (left2 w r t (fullL w r t)).2 w.length 0
 have hshare := share_bound w (fullL w r t) (left2 w r t (fullL w r t)).1 (left2 w r t (fullL w r t)).2 hsw ⟨hR0, hR1⟩ hD hD2
 have hbase := base_bound w r (fullL w r t) (left2 w r t (fullL w r t)).1 (left2 w r t (fullL w r t)).2 hsw hsr ⟨hR0, hR1⟩ hD hD2
 have hbs := base_sum w r (fullL w r t) (left2 w r t (fullL w r t)).1 (left2 w r t (fullL w r t)).2 (dealL w r t) _ w.length hget w.length 0 (by omega)
 have hbq := bsum_eq w r (fullL w r t) (left2 w r t (fullL w r t)).1 (left2 w r t (fullL w r t)).2 w.length 0
 have hmem := plcD_mem w (fullL w r t) w.length 0
 have hR : (left2 w r t (fullL w r t)).1 = t - sumF r (fullL w r t) w.length 0 := rfl
 have hDe : (left2 w r t (fullL w r t)).2 = sumN w (fullL w r t) w.length 0 := rfl
 have hparts := sumW_parts w r (fullL w r t) w.length (fun j hj hf => fullL_pos w r t h j hj hf) w.length 0 (by omega)
 have hroom := roomSum_eq w r hsr w.length 0 0 hn (by omega) (by omega)
 have htr : t ≤ roomSum w r w.length 0 0 := (DOk_len w r t h).2.2.2.2.2
 have hlen := dealL_length w r t h
 have hflen := fullL_length w r t h
 rw [← hDe] at hkey
 generalize hfe : fullL w r t = f at *
 generalize hpe : dealL w r t = p at *
 generalize hRe : (left2 w r t f).1 = R at *
 generalize hDd : (left2 w r t f).2 = D at *
 clear hRe hDd
 generalize hse : sortD w f R D = s at *
 generalize hqe : qsumD w f R D w.length 0 = q at *
 have hll : s.length = (plcD w f w.length 0).length := hperm.length_eq
 -- how many get one more
 have hin : ∀ x : Nat, (x : Int) ∈ s ↔ x < w.length ∧ rdOf false f (x : Int) ≠ true ∧ rd w (x : Int) > 0 := fun x => by
  rw [hperm.mem_iff, hmem]
  constructor
  ·rintro ⟨a, e, _, h1, h2⟩
   obtain rfl : x = a := Int.ofNat.inj e
   exact ⟨by omega, h2⟩
  ·rintro ⟨h1, h2⟩
   exact ⟨x, rfl, Nat.zero_le _, by omega, h2⟩
 have hmore : 0 ≤ R - q ∧ R - q ≤ (s.length : Int) := by
  by_cases hs : s.length = 0
  ·have hp0 : plcD w f w.length 0 = [] := List.length_eq_zero_iff.mp (by omega)
   have hq0 := hplc hp0
   have hu : ∀ d i, i + d ≤ w.length → sumU w r f d i = 0 := by
    intro d
    induction d with
    | zero => intro i _; rfl
    | succ d ih =>
     intro i hi
     unfold sumU
     rw [ih (i + 1) (by omega)]
     by_cases c : rdOf false f (i : Int) = true
     ·rw [if_pos c]; rfl
     ·rw [if_neg c]
      by_cases c2 : rd w (i : Int) > 0
      ·have := (hin i).mpr ⟨by omega, c, c2⟩
       have : s = [] := List.length_eq_zero_iff.mp hs
       simp_all
      ·rw [if_neg c2]; rfl
   have := hu w.length 0 (by omega)
   omega
  ·obtain ⟨x, hx⟩ : ∃ x, x ∈ s := by
    match s, hs with
    | x :: _, _ => exact ⟨x, List.mem_cons_self⟩
   obtain ⟨a, rfl, ha, _⟩ := hord.1 x hx
   obtain ⟨_, h2, h3⟩ := (hin a).mp hx
   have hD0 := (hshare a ha h2 h3).1
   obtain ⟨k1, k2⟩ := hkey
   rw [← hll] at k2
   have e1 : D * (R - q) = R * D - D * q := by rw [Int.mul_sub, Int.mul_comm D R]
   have e2 : (D - 1) * (s.length : Int) = D * (s.length : Int) - (s.length : Int) := by rw [Int.sub_mul, Int.one_mul]
   constructor
   ·refine Int.not_lt.mp fun hlt => ?_
    have : D * (R - q) < D * 0 := Int.mul_lt_mul_of_pos_left hlt hD0
    omega
   ·refine Int.not_lt.mp fun hlt => ?_
    have : D * (s.length : Int) < D * (R - q) := Int.mul_lt_mul_of_pos_left hlt hD0
    omega
 have hm : (more (R - q) s.length : Int) = R - q := by
  rw [more_eq]
  split
  ·omega
  ·split <;> omega
 generalize hme : more (R - q) s.length = m at *
 have htn : (s.take m).Nodup := List.Pairwise.sublist (List.take_sublist _ _) hord.nodup
 have htl : ((s.take m).length : Int) = R - q := by rw [List.length_take]; omega
 have hcnt := cnt_all w.length (s.take m) htn (fun x hx => by
  obtain ⟨a, e, ha, _⟩ := hord.1 x (List.mem_of_mem_take hx)
  exact ⟨a, e, ha⟩)
 have htake : ∀ x : Nat, (x : Int) ∈ s.take m → x < w.length ∧ rdOf false f (x : Int) ≠ true ∧ rd w (x : Int) > 0 := fun x hx => (hin x).mp (List.mem_of_mem_take hx)
 have hq : ∀ i : Nat, i < w.length → rdOf false f (i : Int) ≠ true → rd w (i : Int) > 0 → baseD w r f R D i = Int.tdiv (R * rd w (i : Int)) D := fun i _ c c2 => by unfold baseD; rw [if_neg c, if_pos c2]
 have hqe2 : ∀ i : Nat, i < w.length → D * Int.tdiv (R * rd w (i : Int)) D + keyD w R D i = R * rd w (i : Int) := fun i _ => Int.mul_tdiv_add_tmod _ _
 have hkl : ∀ i : Nat, i < w.length → rdOf false f (i : Int) ≠ true → rd w (i : Int) > 0 → 0 < D ∧ 0 ≤ keyD w R D i ∧ keyD w R D i < D := fun i hi c c2 => by
  have := hshare i hi c c2
  exact ⟨this.1, this.2.2.2, Int.tmod_lt_of_pos _ this.1⟩
 have hnone : ∀ i : Nat, i < w.length → rd w (i : Int) = 0 → rd p (i : Int) = 0 := fun i hi hz => by
  rw [hget i hi, if_neg (fun hx => by have := htake i hx; omega)]
  unfold baseD
  rw [if_neg (fun e => by have := hpos i hi e; omega), if_neg (by omega)]
  rfl
 have hlow : ∀ i : Nat, i < w.length → 0 ≤ rd p (i : Int) := fun i hi => by
  have := hbase i hi
  rw [hget i hi]
  split <;> omega
 refine ⟨hlen, hflen, hlow, fun i hi => ?_, hnone, hpos, fun i hi hf => ?_, fun i k hi hk hfi hfk hlt => ?_, fun i k hi hk hfi hfk he => ?_, ?_⟩
 ·rw [hget i hi]
  by_cases c : rdOf false f (i : Int) = true
  ·rw [if_neg (fun hx => (htake i hx).2.1 c)]
   unfold baseD
   rw [if_pos c]
   omega
  ·by_cases c2 : rd w (i : Int) > 0
   ·have h1 := hrest i hi c c2
    have h2 := hqe2 i hi
    obtain ⟨h3, h4, h5⟩ := hkl i hi c c2
    rw [hq i hi c c2]
    have h6 : Int.tdiv (R * rd w (i : Int)) D < rd r (i : Int) := by
     refine Int.not_le.mp fun hle => ?_
     have := Int.mul_le_mul_of_nonneg_left hle (Int.le_of_lt h3)
     omega
    split <;> omega
   ·have := hsr i
    have := hnone i hi (by have := hsw i; omega)
    rw [hget i hi] at this
    omega
 ·rw [hget i hi, if_neg (fun hx => (htake i hx).2.1 hf)]
  unfold baseD
  rw [if_pos hf]
  omega
 ·by_cases c2 : rd w (k : Int) > 0
  ·have c1 : rd w (i : Int) > 0 := by omega
   obtain ⟨d1, d2, d3⟩ := hkl i hi hfi c1
   obtain ⟨_, d4, d5⟩ := hkl k hk hfk c2
   have e1 := hqe2 i hi
   have e2 := hqe2 k hk
   rw [hget i hi, hget k hk, hq i hi hfi c1, hq k hk hfk c2]
   have hRw : R * rd w (k : Int) ≤ R * rd w (i : Int) := Int.mul_le_mul_of_nonneg_left (by omega) hR0
   generalize hqi : Int.tdiv (R * rd w (i : Int)) D = qi at *
   generalize hqk : Int.tdiv (R * rd w (k : Int)) D = qk at *
   have hle : qk ≤ qi := by
    refine Int.not_lt.mp fun hlt2 => ?_
    have : D * (qi + 1) ≤ D * qk := Int.mul_le_mul_of_nonneg_left (by omega) (Int.le_of_lt d1)
    rw [Int.mul_add, Int.mul_one] at this
    omega
   by_cases hm1 : (k : Int) ∈ s.take m
   ·rw [if_pos hm1]
    by_cases hqq : qk = qi
    ·subst hqq
     have hRpos : 0 < R := by
      refine Int.not_le.mp fun hR' => ?_
      have hR00 : R = 0 := by omega
      have hqn := (hbase k hk).1
      have : (s.take m).length = 0 := by
       have hq0 : 0 ≤ q := by
        have := (qsum_bound w f R D hsw ⟨hR0, hR1⟩ hD hD2 w.length 0 (by omega)).1
        omega
       omega
      rw [List.length_eq_zero_iff.mp this] at hm1
      cases hm1
     have hRw2 : R * rd w (k : Int) < R * rd w (i : Int) := Int.mul_lt_mul_of_pos_left hlt hRpos
     have hki : keyD w R D k < keyD w R D i := by omega
     have := taken_first (keyD w R D) w.length s hord m (i : Int) (k : Int) ((hin i).mpr ⟨hi, hfi, c1⟩) hm1 (by simpa using hki)
     rw [if_pos this]
     omega
    ·split <;> omega
   ·rw [if_neg hm1]
    split <;> omega
  ·rw [hnone k hk (by have := hsw k; omega)]
   exact hlow i hi
 ·rw [hget i hi, hget k hk]
  have hb : baseD w r f R D i = baseD w r f R D k := by
   unfold baseD
   rw [if_neg hfi, if_neg hfk, he]
  rw [hb]
  split <;> split <;> omega
 ·omega
end Go.Proofs.Ytannkhefallkhaa.Pure
/- Grids and their free cells: what the program and the reference answer. -/
namespace Go.Proofs.Ytannkhefallkhaa.Pure
open Go.RowKit Go.Proofs.Ytannkhefallkhaa.Q Go.Proofs.YtannkhefallkhaaW.PrintWords Go.Proofs.YtannkhefallkhaaW.PrintLast
def Kind (c : Int) : Prop := c = 46 ∨ c = 35 ∨ (97 ≤ c ∧ c ≤ 102) ∨ (65 ≤ c ∧ c ≤ 70)
theorem kind_eq (c : Int) : ∃ b, spec_l02Kind.f c = some b ∧ (b = true ↔ Kind c) := by
 unfold spec_l02Kind.f Kind
 by_cases h1 : c = 46
 ·exact ⟨true, by rw [if_pos h1], by simp [h1]⟩
 ·by_cases h2 : c = 35
  ·exact ⟨true, by rw [if_neg h1, if_pos h2], by simp [h2]⟩
  ·by_cases h3 : c ≥ 97
   ·by_cases h4 : c ≤ 102
    ·exact ⟨true, by rw [if_neg h1, if_neg h2, if_pos h3, if_pos h4], ⟨fun _ => by omega, fun _ => rfl⟩⟩
    ·refine ⟨decide (c ≤ 70), by rw [if_neg h1, if_neg h2, if_pos h3, if_neg h4, if_pos (by omega)], ⟨fun h => (by have := of_decide_eq_true h; omega), fun h => decide_eq_true (by omega)⟩⟩
   ·by_cases h5 : c ≥ 65
    ·exact ⟨decide (c ≤ 70), by rw [if_neg h1, if_neg h2, if_neg h3, if_pos h5], ⟨fun h => (by have := of_decide_eq_true h; omega), fun h => decide_eq_true (by omega)⟩⟩
    ·exact ⟨false, by rw [if_neg h1, if_neg h2, if_neg h3, if_neg h5], ⟨fun h => (by cases h), fun h => (by omega)⟩⟩
def Gok (a b : Int) (s : ByteArray) : Prop := 1 ≤ a ∧ a ≤ 8 ∧ 1 ≤ b ∧ b ≤ 8 ∧ (s.size : Int) = a * b ∧ ∀ i : Nat, i < s.size → Kind (bt s (i : Int))
theorem Gok_size {a b : Int} {s : ByteArray} (h : Gok a b s) : s.size ≤ 64 := by
 obtain ⟨h1, h2, h3, h4, h5, _⟩ := h
 have : a * b ≤ 8 * 8 := Int.mul_le_mul h2 h4 (by omega) (by omega)
 omega
theorem implKind_eq (c : Int) (b : Bool) (hb : b = true ↔ Kind c) (X : Option Bool) : (if c = 46 then X else (if c = 35 then X else (if c < 97 then (if c < 65 then (some false) else (if c > 70 then (some false) else X)) else (if c > 102 then (if c < 65 then (some false) else (if c > 70 then (some false) else X)) else X)))) = (if b = true then X else some false) := by
 unfold Kind at hb
 cases b with
 | true =>
  have h := hb.mp rfl
  rw [if_pos rfl]
  repeat' split
  all_goals first | rfl | (exfalso; omega)
 | false =>
  have h : ¬ (c = 46 ∨ c = 35 ∨ (97 ≤ c ∧ c ≤ 102) ∨ (65 ≤ c ∧ c ≤ 70)) := fun h => absurd (hb.mpr h) Bool.false_ne_true
  rw [if_neg Bool.false_ne_true]
  repeat' split
  all_goals first | rfl | (exfalso; omega)
theorem gridOk_l0 (a b : Int) (s : ByteArray) (hs : s.size ≤ 1048576) : ∀ (d i : Nat), i + d = s.size → ∃ g K, (∀ k, K ≤ k → spec_GridOk.l0 k (i : Int) a b s = some g ∧ impl_GridOk.l0 k (i : Int) a b s = some g) ∧ (g = true ↔ ∀ j : Nat, i ≤ j → j < s.size → Kind (bt s (j : Int)))
 | 0, i, hi => by
  refine ⟨true, 1, fun k hk => ?_, ⟨fun _ j h1 h2 => by omega, fun _ => rfl⟩⟩
  obtain ⟨k, rfl⟩ : ∃ m, k = m + 1 := ⟨k - 1, by omega⟩
  have e1 : ¬ (i : Int) < (s.size : Int) := by omega
  simp only [spec_GridOk.l0, impl_GridOk.l0, e1, reduceIte, and_self]
 | d + 1, i, hi => by
  obtain ⟨g, K, h, hg⟩ := gridOk_l0 a b s hs d (i + 1) (by omega)
  have e1 : (i : Int) < (s.size : Int) := by omega
  have e2 : (0 : Int) ≤ i := by omega
  have e9 : wrap64 ((i : Int) + 1) = ((i + 1 : Nat) : Int) := by rw [w64 (by omega) (by omega)]; rfl
  obtain ⟨q, hq, hqk⟩ := kind_eq (bt s (i : Int))
  have hstep : (∀ j : Nat, i ≤ j → j < s.size → Kind (bt s (j : Int))) ↔ Kind (bt s (i : Int)) ∧ ∀ j : Nat, i + 1 ≤ j → j < s.size → Kind (bt s (j : Int)) := by
   constructor
   ·exact fun h => ⟨h i (Nat.le_refl _) (by omega), fun j h1 h2 => h j (by omega) h2⟩
   ·rintro ⟨h0, h⟩ j h1 h2
    rcases Nat.eq_or_lt_of_le h1 with e | e
    ·subst e; exact h0
    ·exact h j e h2
  rw [hstep]
  cases q with
  | true =>
   refine ⟨g, K + 1, fun k hk => ?_, by rw [hg]; exact ⟨fun h => ⟨hqk.mp rfl, h⟩, fun h => h.2⟩⟩
   obtain ⟨k, rfl⟩ : ∃ m, k = m + 1 := ⟨k - 1, by omega⟩
   obtain ⟨q1, q2⟩ := h k (by omega)
   simp only [spec_GridOk.l0, impl_GridOk.l0]
   rw [if_pos e1, if_pos e2, if_pos e1, if_pos e2, hq, e9, implKind_eq _ true hqk]
   simp only [Option.bind_some, reduceIte]
   exact ⟨q1, q2⟩
  | false =>
   refine ⟨false, 1, fun k hk => ?_, ⟨fun h => (by cases h), fun h => absurd (hqk.mpr h.1) (by decide)⟩⟩
   obtain ⟨k, rfl⟩ : ∃ m, k = m + 1 := ⟨k - 1, by omega⟩
   simp only [spec_GridOk.l0, impl_GridOk.l0]
   rw [if_pos e1, if_pos e2, if_pos e1, if_pos e2, hq, e9, implKind_eq _ false hqk]
   simp only [Option.bind_some, Bool.false_eq_true, reduceIte, and_self]
theorem gridOk_ev (a b : Int) (s : ByteArray) (hs : s.size ≤ 1048576) : ∃ g K, (∀ k, K ≤ k → spec_GridOk.f k a b s = some g ∧ impl_GridOk.f k a b s = some g) ∧ (g = true ↔ Gok a b s) := by
 obtain ⟨g, K, h, hg⟩ := gridOk_l0 a b s hs s.size 0 (by omega)
 by_cases ha : 1 ≤ a ∧ a ≤ 8
 ·by_cases hb : 1 ≤ b ∧ b ≤ 8
  ·have hm : wrap64 (a * b) = a * b := by
    have h1 : a * b ≤ 8 * 8 := Int.mul_le_mul ha.2 hb.2 (by omega) (by omega)
    have h2 : 0 ≤ a * b := Int.mul_nonneg (by omega) (by omega)
    exact w64 (by omega) (by omega)
   have a1 : ¬ a < 1 := by omega
   have a2 : ¬ a > 8 := by omega
   have b1 : ¬ b < 1 := by omega
   have b2 : ¬ b > 8 := by omega
   by_cases hsz : (s.size : Int) = a * b
   ·have e : ((s.size : Int) != wrap64 (a * b)) = false := by rw [hm]; simp [hsz]
    refine ⟨g, K + 1, fun k hk => ?_, ?_⟩
    ·obtain ⟨k, rfl⟩ : ∃ m, k = m + 1 := ⟨k - 1, by omega⟩
     unfold spec_GridOk.f impl_GridOk.f
     simp only [l01In_eq, ha, hb, a1, a2, b1, b2, e, and_self, decide_true, Option.bind_some, reduceIte]
     simp only [spec_GridOk.j0, impl_GridOk.j0, Bool.false_eq_true, reduceIte]
     exact h k (by omega)
    ·rw [hg]
     exact ⟨fun h => ⟨ha.1, ha.2, hb.1, hb.2, hsz, fun i hi => h i (Nat.zero_le _) hi⟩, fun h j _ hj => h.2.2.2.2.2 j hj⟩
   ·have e : ((s.size : Int) != wrap64 (a * b)) = true := by rw [hm]; simp [hsz]
    refine ⟨false, 1, fun k hk => ?_, ⟨fun h => (by cases h), fun h => absurd h.2.2.2.2.1 hsz⟩⟩
    obtain ⟨k, rfl⟩ : ∃ m, k = m + 1 := ⟨k - 1, by omega⟩
    unfold spec_GridOk.f impl_GridOk.f
    simp only [l01In_eq, ha, hb, a1, a2, b1, b2, e, and_self, decide_true, Option.bind_some, reduceIte]
    simp only [spec_GridOk.j0, impl_GridOk.j0, reduceIte, and_self]
  ·refine ⟨false, 1, fun k hk => ?_, ⟨fun h => (by cases h), fun h => absurd ⟨h.2.2.1, h.2.2.2.1⟩ hb⟩⟩
   obtain ⟨k, rfl⟩ : ∃ m, k = m + 1 := ⟨k - 1, by omega⟩
   have a1 : ¬ a < 1 := by omega
   have a2 : ¬ a > 8 := by omega
   unfold spec_GridOk.f impl_GridOk.f
   simp only [l01In_eq, ha, hb, a1, a2, and_self, decide_true, decide_false, Option.bind_some, Bool.false_eq_true, reduceIte]
   by_cases b1 : b < 1
   ·simp only [b1, spec_GridOk.j0, impl_GridOk.j0, reduceIte, and_self]
   ·have b2 : b > 8 := by omega
    simp only [b1, b2, spec_GridOk.j0, impl_GridOk.j0, reduceIte, and_self]
 ·refine ⟨false, 1, fun k hk => ?_, ⟨fun h => (by cases h), fun h => absurd ⟨h.1, h.2.1⟩ ha⟩⟩
  obtain ⟨k, rfl⟩ : ∃ m, k = m + 1 := ⟨k - 1, by omega⟩
  unfold spec_GridOk.f impl_GridOk.f
  simp only [l01In_eq, ha, decide_false, Option.bind_some, Bool.false_eq_true, reduceIte]
  by_cases a1 : a < 1
  ·simp only [a1, spec_GridOk.j0, impl_GridOk.j0, reduceIte, and_self]
  ·have a2 : a > 8 := by omega
   simp only [a1, a2, spec_GridOk.j0, impl_GridOk.j0, reduceIte, and_self]
def Fr (s : ByteArray) (c : Int) : Prop := 0 ≤ c ∧ c < (s.size : Int) ∧ bt s c ≠ 35
instance (s : ByteArray) (c : Int) : Decidable (Fr s c) := by unfold Fr; exact inferInstance
theorem fr_nest (s : ByteArray) (c : Int) : (if c ≥ 0 then (if c < (s.size : Int) then (if 0 ≤ c then (some ((bt s c) != 35)) else (none)) else (some false)) else (some false)) = some (decide (Fr s c)) := by
 by_cases h1 : c ≥ 0
 ·by_cases h2 : c < (s.size : Int)
  ·rw [if_pos h1, if_pos h2, if_pos h1]
   by_cases h3 : bt s c = 35
   ·rw [decide_eq_false (fun h : Fr s c => h.2.2 h3), h3]; rfl
   ·rw [decide_eq_true (show Fr s c from ⟨h1, h2, h3⟩)]
    congr 1
    simpa using h3
  ·rw [if_pos h1, if_neg h2, decide_eq_false (fun h : Fr s c => h2 h.2.1)]
 ·rw [if_neg h1, decide_eq_false (fun h : Fr s c => h1 h.1)]
theorem isFree_eq (a b : Int) (s : ByteArray) (c : Int) : impl_isFree.f a b s c = some (decide (Fr s c)) := fr_nest s c
theorem specFreeAt_ev (a b : Int) (s : ByteArray) (hs : s.size ≤ 1048576) (c : Int) : ∃ g K, (∀ k, K ≤ k → spec_FreeAt.f k a b s c = some g) ∧ (g = true ↔ Gok a b s ∧ Fr s c) := by
 obtain ⟨g, K, h, hg⟩ := gridOk_ev a b s hs
 cases g with
 | false =>
  refine ⟨false, K, fun k hk => ?_, ⟨fun h => (by cases h), fun h2 => absurd (hg.mpr h2.1) (by decide)⟩⟩
  unfold spec_FreeAt.f
  rw [(h k hk).1]
  rfl
 | true =>
  refine ⟨decide (Fr s c), K, fun k hk => ?_, ⟨fun h => ⟨hg.mp rfl, of_decide_eq_true h⟩, fun h => decide_eq_true h.2⟩⟩
  unfold spec_FreeAt.f
  rw [(h k hk).1]
  simp only [Option.bind_some, reduceIte, isFree_eq]
  exact fr_nest s c
def fr (s : ByteArray) : Nat → Nat → List Int
 | 0, _ => []
 | d + 1, i => if Fr s (i : Int) then (i : Int) :: fr s d (i + 1) else fr s d (i + 1)
theorem fr_len (s : ByteArray) : ∀ d i, (fr s d i).length ≤ d
 | 0, _ => Nat.le_refl _
 | d + 1, i => by
  unfold fr
  have := fr_len s d (i + 1)
  split <;> simp <;> omega
theorem fr_mem (s : ByteArray) (c : Int) : ∀ d i, c ∈ fr s d i ↔ (i : Int) ≤ c ∧ c < (i : Int) + d ∧ Fr s c
 | 0, i => by simp [fr]; omega
 | d + 1, i => by
  unfold fr
  by_cases h : Fr s (i : Int)
  ·rw [if_pos h, List.mem_cons, fr_mem s c d (i + 1)]
   constructor
   ·rintro (e | ⟨h1, h2, h3⟩)
    ·subst e; exact ⟨Int.le_refl _, by omega, h⟩
    ·exact ⟨by omega, by omega, h3⟩
   ·rintro ⟨h1, h2, h3⟩
    by_cases e : c = (i : Int)
    ·exact .inl e
    ·exact .inr ⟨by omega, by omega, h3⟩
  ·rw [if_neg h, fr_mem s c d (i + 1)]
   constructor
   ·rintro ⟨h1, h2, h3⟩; exact ⟨by omega, by omega, h3⟩
   ·rintro ⟨h1, h2, h3⟩
    by_cases e : c = (i : Int)
    ·subst e; exact absurd h3 h
    ·exact ⟨by omega, by omega, h3⟩
open Classical in
noncomputable def frees (a b : Int) (s : ByteArray) : List Int := if Gok a b s then fr s s.size 0 else []
theorem frees_len (a b : Int) (s : ByteArray) : (frees a b s).length ≤ 64 := by
 unfold frees
 split
 ·rename_i h
  have := fr_len s s.size 0
  have := Gok_size h
  omega
 ·simp
theorem frees_mem (a b : Int) (s : ByteArray) (c : Int) : c ∈ frees a b s ↔ Gok a b s ∧ Fr s c := by
 unfold frees
 split
 ·rename_i h
  rw [fr_mem]
  exact ⟨fun h2 => ⟨h, h2.2.2⟩, fun h2 => ⟨by have := h2.2.1; omega, by have := h2.2.2.1; omega, h2.2⟩⟩
 ·rename_i h
  simp [h]
theorem implFree_go (a b : Int) (s : ByteArray) (hg : Gok a b s) : ∀ (d i : Nat) (acc : List Int), i + d = s.size → acc.length ≤ i → impl_FreeCells.go a b s d i acc = some (acc ++ fr s d i)
 | 0, i, acc, hi, ha => by simp [impl_FreeCells.go, fr]
 | d + 1, i, acc, hi, ha => by
  have hsz := Gok_size hg
  have hk := hg.2.2.2.2.2 i (by omega)
  have hb : bt s (i : Int) = ((s[i]'(by omega)).toNat : Int) := by
   unfold bt
   rw [dif_pos (by rw [Int.toNat_natCast]; omega)]
   simp
  have hlt : (s[i]'(by omega)).toNat < 128 := by
   unfold Kind at hk
   rw [hb] at hk
   omega
  unfold impl_FreeCells.go fr
  rw [dif_pos (by omega), if_pos hlt, isFree_eq, Option.bind_some]
  by_cases c : Fr s (i : Int)
  ·rw [decide_eq_true c, if_pos rfl, if_pos (by omega), if_pos c, implFree_go a b s hg d (i + 1) _ (by omega) (by simp; omega)]
   simp
  ·rw [decide_eq_false c, if_neg (by decide), if_neg c, implFree_go a b s hg d (i + 1) _ (by omega) (by omega)]
theorem implFree_ev (a b : Int) (s : ByteArray) (hs : s.size ≤ 1048576) : ∃ K, ∀ k, K ≤ k → impl_FreeCells.f k a b s = some (frees a b s) := by
 obtain ⟨g, K, h, hg⟩ := gridOk_ev a b s hs
 refine ⟨K, fun k hk => ?_⟩
 unfold impl_FreeCells.f frees
 rw [(h k hk).2, Option.bind_some]
 cases g with
 | true =>
  have hG := hg.mp rfl
  rw [if_pos rfl, if_pos hG, implFree_go a b s hG s.size 0 [] (by omega) (by simp)]
  simp
 | false =>
  rw [if_neg (by decide), if_neg (fun h => absurd (hg.mpr h) (by decide))]
end Go.Proofs.Ytannkhefallkhaa.Pure
/- Whether a list holds a number: what the reference answers. -/
namespace Go.Proofs.Ytannkhefallkhaa.Pure
open Go.RowKit Go.Proofs.Ytannkhefallkhaa.Q Go.Proofs.YtannkhefallkhaaW.PrintWords Go.Proofs.YtannkhefallkhaaW.PrintLast
theorem has_l0 (l : List Int) (c : Int) (hn : l.length ≤ 9223372036854775807) : ∀ (d i k : Nat), i + d = l.length → d < k → spec_l03Has.l0 k l c (i : Int) = some (decide (c ∈ l.drop i))
 | 0, i, k, hi, hk => by
  obtain ⟨k, rfl⟩ : ∃ m, k = m + 1 := ⟨k - 1, by omega⟩
  simp only [spec_l03Has.l0]
  rw [if_neg (by omega), List.drop_of_length_le (by omega)]
  simp
 | d + 1, i, k, hi, hk => by
  obtain ⟨k, rfl⟩ : ∃ m, k = m + 1 := ⟨k - 1, by omega⟩
  simp only [spec_l03Has.l0]
  rw [if_pos (by omega), if_pos (by omega), rd_get l i (by omega), drop_cons l i (by omega)]
  by_cases e : l[i]'(by omega) = c
  ·rw [if_pos e, decide_eq_true (by simp [e])]
  ·rw [if_neg e, w64 (by omega) (by omega), show ((i : Int) + 1) = ((i + 1 : Nat) : Int) by omega, has_l0 l c hn d (i + 1) k (by omega) (by omega)]
   congr 1
   exact decide_eq_decide.mpr (by simp only [List.mem_cons, Ne.symm e, false_or])
theorem has_eq (l : List Int) (c : Int) (hn : l.length ≤ 9223372036854775807) (k : Nat) (hk : l.length < k) : spec_l03Has.f k l c = some (decide (c ∈ l)) := by
 have := has_l0 l c hn l.length 0 k (by omega) hk
 simpa [spec_l03Has.f] using this
end Go.Proofs.Ytannkhefallkhaa.Pure
/- Parking cells of zones, and those of them that are not held: what the program and the reference answer. -/
namespace Go.Proofs.Ytannkhefallkhaa.Pure
open Go.RowKit Go.Proofs.Ytannkhefallkhaa.Q Go.Proofs.YtannkhefallkhaaW.PrintWords Go.Proofs.YtannkhefallkhaaW.PrintLast
def Pk (s : ByteArray) (c : Int) : Prop := 0 ≤ c ∧ c < (s.size : Int) ∧ 65 ≤ bt s c ∧ bt s c ≤ 70
instance (s : ByteArray) (c : Int) : Decidable (Pk s c) := by unfold Pk; exact inferInstance
theorem parkAt_ev (a b : Int) (s : ByteArray) (hs : s.size ≤ 1048576) (c : Int) : ∃ g K, (∀ k, K ≤ k → spec_ParkAt.f k a b s c = some g ∧ impl_ParkAt.f k a b s c = some g) ∧ (g = true ↔ Gok a b s ∧ Pk s c) := by
 obtain ⟨g, K, h, hg⟩ := gridOk_ev a b s hs
 obtain ⟨f, K1, h1, hf⟩ := specFreeAt_ev a b s hs c
 cases g with
 | false =>
  have hG : ¬ Gok a b s := fun h => absurd (hg.mpr h) (by decide)
  have : f = false := by
   cases f with
   | false => rfl
   | true => exact absurd (hf.mp rfl).1 hG
  subst this
  refine ⟨false, K + K1, fun k hk => ?_, ⟨fun h => (by cases h), fun h => absurd h.1 hG⟩⟩
  unfold spec_ParkAt.f impl_ParkAt.f
  rw [(h k (by omega)).2, (h1 k (by omega))]
  exact ⟨rfl, rfl⟩
 | true =>
  have hG := hg.mp rfl
  refine ⟨decide (Pk s c), K + K1, fun k hk => ?_, ⟨fun h => ⟨hG, of_decide_eq_true h⟩, fun h => decide_eq_true h.2⟩⟩
  unfold spec_ParkAt.f impl_ParkAt.f
  rw [(h k (by omega)).2, (h1 k (by omega)), Option.bind_some, Option.bind_some, if_pos (rfl : true = true)]
  by_cases c1 : c ≥ 0
  ·by_cases c2 : c < (s.size : Int)
   ·simp only [c1, c2, reduceIte]
    by_cases c3 : bt s c ≥ 65
    ·have e : decide (bt s c ≤ 70) = decide (Pk s c) := decide_eq_decide.mpr ⟨fun h => ⟨c1, c2, c3, h⟩, fun h => h.2.2.2⟩
     rw [if_pos c3, e]
     cases f with
     | true => exact ⟨rfl, rfl⟩
     | false =>
      refine ⟨?_, rfl⟩
      rw [if_neg (by decide), decide_eq_false]
      intro hp
      have : Fr s c := ⟨c1, c2, by have := hp.2.2.1; omega⟩
      exact absurd (hf.mpr ⟨hG, this⟩) (by decide)
    ·rw [if_neg c3, decide_eq_false (fun h : Pk s c => c3 h.2.2.1)]
     cases f <;> exact ⟨rfl, rfl⟩
   ·have hp : decide (Pk s c) = false := decide_eq_false fun h => c2 h.2.1
    have : f = false := by
     cases f with
     | false => rfl
     | true => exact absurd (hf.mp rfl).2.2.1 c2
    subst this
    rw [hp]
    simp only [c1, c2, reduceIte, Bool.false_eq_true, and_self]
  ·have hp : decide (Pk s c) = false := decide_eq_false fun h => c1 h.1
   have : f = false := by
    cases f with
    | false => rfl
    | true => exact absurd (hf.mp rfl).2.1 c1
   subst this
   rw [hp]
   simp only [c1, reduceIte, Bool.false_eq_true, and_self]
theorem zoneOf_ev (a b : Int) (s : ByteArray) (hs : s.size ≤ 1048576) (c : Int) (hG : Gok a b s) (hp : Pk s c) : ∃ K, ∀ k, K ≤ k → spec_ZoneOf.f k a b s c = some (bt s c - 65) ∧ impl_ZoneOf.f k a b s c = some (bt s c - 65) := by
 obtain ⟨g, K, h, hg⟩ := gridOk_ev a b s hs
 obtain ⟨f, K1, h1, hf⟩ := specFreeAt_ev a b s hs c
 obtain rfl := hg.mpr hG
 obtain ⟨p1, p2, p3, p4⟩ := hp
 obtain rfl := hf.mpr ⟨hG, p1, p2, by omega⟩
 refine ⟨K + K1 + 2, fun k hk => ?_⟩
 obtain ⟨k, rfl⟩ : ∃ m, k = m + 2 := ⟨k - 2, by omega⟩
 unfold spec_ZoneOf.f impl_ZoneOf.f
 rw [(h (k + 2) (by omega)).2, (h1 (k + 2) (by omega)), Option.bind_some, Option.bind_some, if_pos (rfl : true = true), if_pos (rfl : true = true)]
 rw [if_pos p1, if_pos p2, if_neg (by omega), decide_eq_false (by omega)]
 have e1 : (bt s c == 46) = false := by rw [beq_eq_false_iff_ne]; omega
 have e2 : ¬ bt s c ≥ 97 := by omega
 have e3 : bt s c ≥ 65 := by omega
 have e4 : wrap64 (bt s c) = bt s c := w64 (by omega) (by omega)
 have e5 : wrap64 (bt s c - 65) = bt s c - 65 := w64 (by omega) (by omega)
 have e6 : (bt s c - 65) % 256 = bt s c - 65 := Int.emod_eq_of_lt (by omega) (by omega)
 rw [e1]
 simp only [spec_ZoneOf.j0, impl_ZoneOf.j0, impl_ZoneOf.j1, p1, p2, p4, e2, e3, e4, e5, e6, reduceIte, Bool.false_eq_true, and_self]
def pz (s : ByteArray) (z : Int) (c : Int) : Bool := decide (Pk s c ∧ bt s c - 65 = z)
noncomputable def parks (a b : Int) (s : ByteArray) (z : Int) : List Int := (frees a b s).filter (pz s z)
theorem parks_len (a b : Int) (s : ByteArray) (z : Int) : (parks a b s z).length ≤ 64 := Nat.le_trans (List.length_filter_le _ _) (frees_len a b s)
theorem implParks_l0 (a b : Int) (s : ByteArray) (hs : s.size ≤ 1048576) (hG : Gok a b s) (z : Int) (l : List Int) (hl : l.length ≤ 64) : ∀ (d i : Nat) (acc : List Int), i + d = l.length → acc.length ≤ i → ∃ K, ∀ k, K ≤ k → impl_ParksIn.l0 k z acc l (l.length : Int) (i : Int) a b s = some (acc ++ (l.drop i).filter (pz s z))
 | 0, i, acc, hi, ha => by
  refine ⟨1, fun k hk => ?_⟩
  obtain ⟨k, rfl⟩ : ∃ m, k = m + 1 := ⟨k - 1, by omega⟩
  simp only [impl_ParksIn.l0]
  rw [if_neg (by omega), List.drop_of_length_le (by omega)]
  simp
 | d + 1, i, acc, hi, ha => by
  have hlt : i < l.length := by omega
  have hrd := rd_get l i hlt
  have e9 : wrap64 ((i : Int) + 1) = ((i + 1 : Nat) : Int) := by rw [w64 (by omega) (by omega)]; rfl
  obtain ⟨g, K1, h1, hg⟩ := parkAt_ev a b s hs (rd l (i : Int))
  have hsplit : (l.drop i).filter (pz s z) = (if pz s z (rd l (i : Int)) = true then [rd l (i : Int)] else []) ++ (l.drop (i + 1)).filter (pz s z) := by
   rw [drop_cons l i hlt, List.filter_cons, hrd]
   split <;> simp
  have hstep : ∀ k, impl_ParksIn.l0 (k + 1) z acc l (l.length : Int) (i : Int) a b s = ((impl_ParkAt.f k a b s (rd l i)).bind fun t156 => (if t156 = true then ((impl_ZoneOf.f k a b s (rd l i)).bind fun t157 => (if t157 = z then (if acc.length < 17592186044416 then (impl_ParksIn.l0 k z (acc ++ [rd l i]) l (l.length : Int) ((i + 1 : Nat) : Int) a b s) else (none)) else (impl_ParksIn.l0 k z acc l (l.length : Int) ((i + 1 : Nat) : Int) a b s))) else (impl_ParksIn.l0 k z acc l (l.length : Int) ((i + 1 : Nat) : Int) a b s))) := fun k => by
   simp only [impl_ParksIn.l0]
   rw [if_pos (by omega), if_pos (by omega), if_pos (by omega), e9]
  cases g with
  | false =>
   obtain ⟨K, h⟩ := implParks_l0 a b s hs hG z l hl d (i + 1) acc (by omega) (by omega)
   refine ⟨K + K1 + 1, fun k hk => ?_⟩
   obtain ⟨k, rfl⟩ : ∃ m, k = m + 1 := ⟨k - 1, by omega⟩
   have hp : pz s z (rd l (i : Int)) = false := decide_eq_false fun hp => absurd (hg.mpr ⟨hG, hp.1⟩) (by decide)
   rw [hstep, (h1 k (by omega)).2, Option.bind_some, if_neg (by decide), h k (by omega), hsplit, hp]
   simp
  | true =>
   have hpk := (hg.mp rfl).2
   obtain ⟨K2, h2⟩ := zoneOf_ev a b s hs (rd l (i : Int)) hG hpk
   by_cases ez : bt s (rd l (i : Int)) - 65 = z
   ·obtain ⟨K, h⟩ := implParks_l0 a b s hs hG z l hl d (i + 1) (acc ++ [rd l (i : Int)]) (by omega) (by simp; omega)
    refine ⟨K + K1 + K2 + 1, fun k hk => ?_⟩
    obtain ⟨k, rfl⟩ : ∃ m, k = m + 1 := ⟨k - 1, by omega⟩
    have hp : pz s z (rd l (i : Int)) = true := decide_eq_true ⟨hpk, ez⟩
    rw [hstep, (h1 k (by omega)).2, Option.bind_some, if_pos rfl, (h2 k (by omega)).2, Option.bind_some, if_pos ez, if_pos (by omega), h k (by omega), hsplit, hp]
    simp
   ·obtain ⟨K, h⟩ := implParks_l0 a b s hs hG z l hl d (i + 1) acc (by omega) (by omega)
    refine ⟨K + K1 + K2 + 1, fun k hk => ?_⟩
    obtain ⟨k, rfl⟩ : ∃ m, k = m + 1 := ⟨k - 1, by omega⟩
    have hp : pz s z (rd l (i : Int)) = false := decide_eq_false fun hp => ez hp.2
    rw [hstep, (h1 k (by omega)).2, Option.bind_some, if_pos rfl, (h2 k (by omega)).2, Option.bind_some, if_neg ez, h k (by omega), hsplit, hp]
    simp
theorem implParks_ev (a b : Int) (s : ByteArray) (hs : s.size ≤ 1048576) (z : Int) : ∃ K, ∀ k, K ≤ k → impl_ParksIn.f k a b s z = some (parks a b s z) := by
 obtain ⟨K1, h1⟩ := implFree_ev a b s hs
 by_cases hG : Gok a b s
 ·obtain ⟨K, h⟩ := implParks_l0 a b s hs hG z (frees a b s) (frees_len a b s) (frees a b s).length 0 [] (by omega) (by simp)
  refine ⟨K + K1, fun k hk => ?_⟩
  have h0 := h k (by omega)
  rw [show ((0 : Nat) : Int) = 0 from rfl] at h0
  unfold impl_ParksIn.f parks
  rw [h1 k (by omega), Option.bind_some, h0]
  simp
 ·have hf : frees a b s = [] := by unfold frees; rw [if_neg hG]
  refine ⟨K1 + 1, fun k hk => ?_⟩
  obtain ⟨k, rfl⟩ : ∃ m, k = m + 1 := ⟨k - 1, by omega⟩
  unfold impl_ParksIn.f parks
  rw [h1 (k + 1) (by omega), Option.bind_some, hf]
  simp [impl_ParksIn.l0]
theorem specParks_l0 (a b : Int) (s : ByteArray) (hs : s.size ≤ 1048576) (z : Int) : ∀ (d i : Nat) (acc : List Int), i + d = min s.size 64 → acc.length ≤ i → ∃ v K, (∀ k, K ≤ k → spec_ParksIn.l0 k z acc (i : Int) a b s = some v) ∧ (Gok a b s → v = acc ++ (fr s d i).filter (pz s z)) ∧ (¬ Gok a b s → v = acc)
 | 0, i, acc, hi, ha => by
  refine ⟨acc, 2, fun k hk => ?_, by simp [fr], fun _ => rfl⟩
  obtain ⟨k, rfl⟩ : ∃ m, k = m + 2 := ⟨k - 2, by omega⟩
  simp only [spec_ParksIn.l0]
  by_cases c : (i : Int) < (s.size : Int)
  ·rw [if_pos c, decide_eq_false (by omega)]
   simp only [spec_ParksIn.j1, Bool.false_eq_true, reduceIte]
  ·rw [if_neg c]
   simp only [spec_ParksIn.j1, Bool.false_eq_true, reduceIte]
 | d + 1, i, acc, hi, ha => by
  obtain ⟨g, K1, h1, hg⟩ := parkAt_ev a b s hs (i : Int)
  have e1 : (i : Int) < (s.size : Int) := by omega
  have e2 : decide ((i : Int) < 64) = true := decide_eq_true (by omega)
  have e9 : wrap64 ((i : Int) + 1) = ((i + 1 : Nat) : Int) := by rw [w64 (by omega) (by omega)]; rfl
  have hfr : (fr s (d + 1) i).filter (pz s z) = (if pz s z (i : Int) = true then [(i : Int)] else []) ++ (fr s d (i + 1)).filter (pz s z) := by
   rw [show fr s (d + 1) i = if Fr s (i : Int) then (i : Int) :: fr s d (i + 1) else fr s d (i + 1) from rfl]
   by_cases c : Fr s (i : Int)
   ·rw [if_pos c, List.filter_cons]
    split <;> simp
   ·have hp : pz s z (i : Int) = false := decide_eq_false fun hp => c ⟨hp.1.1, hp.1.2.1, by have := hp.1.2.2.1; omega⟩
    rw [if_neg c, hp]
    simp
  cases g with
  | true =>
   obtain ⟨hG, hpk⟩ := hg.mp rfl
   obtain ⟨K2, h2⟩ := zoneOf_ev a b s hs (i : Int) hG hpk
   by_cases ez : bt s (i : Int) - 65 = z
   ·obtain ⟨v, K, h, hv, hw⟩ := specParks_l0 a b s hs z d (i + 1) (acc ++ [(i : Int)]) (by omega) (by simp; omega)
    have hp : pz s z (i : Int) = true := decide_eq_true ⟨hpk, ez⟩
    refine ⟨v, K + K1 + K2 + 2, fun k hk => ?_, fun hG => ?_, fun hN => absurd hG hN⟩
    ·obtain ⟨k, rfl⟩ : ∃ m, k = m + 2 := ⟨k - 2, by omega⟩
     simp only [spec_ParksIn.l0]
     rw [if_pos e1, e2]
     simp only [spec_ParksIn.j1, reduceIte]
     rw [(h1 k (by omega)).1, Option.bind_some, if_pos rfl, (h2 k (by omega)).1, Option.bind_some, if_pos ez, if_pos (by omega), e9]
     exact h k (by omega)
    ·rw [hv hG, hfr, hp]; simp
   ·obtain ⟨v, K, h, hv, hw⟩ := specParks_l0 a b s hs z d (i + 1) acc (by omega) (by omega)
    have hp : pz s z (i : Int) = false := decide_eq_false fun hp => ez hp.2
    refine ⟨v, K + K1 + K2 + 2, fun k hk => ?_, fun hG => ?_, fun hN => absurd hG hN⟩
    ·obtain ⟨k, rfl⟩ : ∃ m, k = m + 2 := ⟨k - 2, by omega⟩
     simp only [spec_ParksIn.l0]
     rw [if_pos e1, e2]
     simp only [spec_ParksIn.j1, reduceIte]
     rw [(h1 k (by omega)).1, Option.bind_some, if_pos rfl, (h2 k (by omega)).1, Option.bind_some, if_neg ez, e9]
     exact h k (by omega)
    ·rw [hv hG, hfr, hp]; simp
  | false =>
   obtain ⟨v, K, h, hv, hw⟩ := specParks_l0 a b s hs z d (i + 1) acc (by omega) (by omega)
   refine ⟨v, K + K1 + 2, fun k hk => ?_, fun hG => ?_, hw⟩
   ·obtain ⟨k, rfl⟩ : ∃ m, k = m + 2 := ⟨k - 2, by omega⟩
    simp only [spec_ParksIn.l0]
    rw [if_pos e1, e2]
    simp only [spec_ParksIn.j1, reduceIte]
    rw [(h1 k (by omega)).1, Option.bind_some, if_neg (by decide), e9]
    exact h k (by omega)
   ·have hp : pz s z (i : Int) = false := decide_eq_false fun hp => absurd (hg.mpr ⟨hG, hp.1⟩) (by decide)
    rw [hv hG, hfr, hp]; simp
theorem specParks_ev (a b : Int) (s : ByteArray) (hs : s.size ≤ 1048576) (z : Int) : ∃ K, ∀ k, K ≤ k → spec_ParksIn.f k a b s z = some (parks a b s z) := by
 obtain ⟨v, K, h, hv, hw⟩ := specParks_l0 a b s hs z (min s.size 64) 0 [] (by omega) (by simp)
 refine ⟨K, fun k hk => ?_⟩
 have h0 := h k hk
 rw [show ((0 : Nat) : Int) = 0 from rfl] at h0
 unfold spec_ParksIn.f parks frees
 rw [h0]
 by_cases hG : Gok a b s
 ·rw [hv hG, if_pos hG, Nat.min_eq_left (Gok_size hG)]; simp
 ·rw [hw hG, if_neg hG]; simp
noncomputable def room (a b : Int) (s : ByteArray) (l : List Int) (z : Int) : Int := (((parks a b s z).filter fun x => !(decide (x ∈ l))).length : Int)
theorem room_bound (a b : Int) (s : ByteArray) (l : List Int) (z : Int) : 0 ≤ room a b s l z ∧ room a b s l z ≤ 64 := by
 unfold room
 have h1 := List.length_filter_le (fun x => !(decide (x ∈ l))) (parks a b s z)
 have h2 := parks_len a b s z
 omega
noncomputable def roomsFrom (a b : Int) (s : ByteArray) (l : List Int) : Nat → Nat → List Int
 | 0, _ => []
 | d + 1, z => room a b s l (z : Int) :: roomsFrom a b s l d (z + 1)
theorem roomsFrom_len (a b : Int) (s : ByteArray) (l : List Int) : ∀ d z, (roomsFrom a b s l d z).length = d
 | 0, _ => rfl
 | d + 1, z => by simp [roomsFrom, roomsFrom_len a b s l d (z + 1)]
open Classical in
noncomputable def rooms (a b : Int) (s : ByteArray) (l : List Int) : List Int := if Gok a b s then roomsFrom a b s l 6 0 else []
theorem parksLeft_ev (a b : Int) (s : ByteArray) (hs : s.size ≤ 1048576) (l : List Int) (z : Int) : ∃ K, ∀ k, K ≤ k → impl_parksLeft.f k a b s z l = some ((parks a b s z).filter fun x => !(decide (x ∈ l))) := by
 obtain ⟨K, h⟩ := implParks_ev a b s hs z
 refine ⟨K, fun k hk => ?_⟩
 unfold impl_parksLeft.f
 rw [h k hk, Option.bind_some]
theorem implRooms_l0 (a b : Int) (s : ByteArray) (hs : s.size ≤ 1048576) (l : List Int) : ∀ (d i : Nat) (acc : List Int), i + d = 6 → acc.length ≤ i → ∃ K, ∀ k, K ≤ k → impl_RoomsOf.l0 k l acc (i : Int) a b s = some (acc ++ roomsFrom a b s l d i)
 | 0, i, acc, hi, ha => by
  refine ⟨1, fun k hk => ?_⟩
  obtain ⟨k, rfl⟩ : ∃ m, k = m + 1 := ⟨k - 1, by omega⟩
  simp only [impl_RoomsOf.l0]
  rw [if_neg (by omega)]
  simp [roomsFrom]
 | d + 1, i, acc, hi, ha => by
  obtain ⟨K1, h1⟩ := parksLeft_ev a b s hs l (i : Int)
  obtain ⟨K, h⟩ := implRooms_l0 a b s hs l d (i + 1) (acc ++ [room a b s l (i : Int)]) (by omega) (by simp; omega)
  have e9 : wrap64 ((i : Int) + 1) = ((i + 1 : Nat) : Int) := by rw [w64 (by omega) (by omega)]; rfl
  refine ⟨K + K1 + 1, fun k hk => ?_⟩
  obtain ⟨k, rfl⟩ : ∃ m, k = m + 1 := ⟨k - 1, by omega⟩
  simp only [impl_RoomsOf.l0]
  rw [if_pos (by omega), h1 k (by omega), Option.bind_some, if_pos (by omega), e9]
  have := h k (by omega)
  unfold room at this
  rw [this, roomsFrom, room]
  simp
theorem implRooms_ev (a b : Int) (s : ByteArray) (hs : s.size ≤ 1048576) (l : List Int) : ∃ K, ∀ k, K ≤ k → impl_RoomsOf.f k a b s l = some (rooms a b s l) := by
 obtain ⟨g, K1, h1, hg⟩ := gridOk_ev a b s hs
 obtain ⟨K, h⟩ := implRooms_l0 a b s hs l 6 0 [] (by omega) (by simp)
 refine ⟨K + K1, fun k hk => ?_⟩
 unfold impl_RoomsOf.f rooms
 rw [(h1 k (by omega)).2, Option.bind_some]
 cases g with
 | false => rw [if_neg (by decide), if_neg (fun h => absurd (hg.mpr h) (by decide))]
 | true =>
  have h0 := h k (by omega)
  rw [show ((0 : Nat) : Int) = 0 from rfl] at h0
  rw [if_pos rfl, if_pos (hg.mp rfl), h0]
  simp
theorem specRooms_l1 (a b : Int) (s : ByteArray) (l : List Int) (hl : l.length ≤ 1048576) (acc : List Int) (z : Int) (m : List Int) (hm : m.length ≤ 64) : ∀ (d i : Nat) (n : Int), i + d = m.length → 0 ≤ n → n ≤ i → ∃ K, ∀ k, K ≤ k → ∃ k', k ≤ k' + d + 1 ∧ k' ≤ k ∧ spec_RoomsOf.l1 k l acc z n m (i : Int) a b s = (if acc.length < 17592186044416 then (spec_RoomsOf.l0 k' l (acc ++ [n + (((m.drop i).filter fun x => !(decide (x ∈ l))).length : Int)]) (wrap64 (z + 1)) a b s) else none)
 | 0, i, n, hi, h0, hn => by
  refine ⟨1, fun k hk => ?_⟩
  obtain ⟨k, rfl⟩ : ∃ m, k = m + 1 := ⟨k - 1, by omega⟩
  refine ⟨k, by omega, by omega, ?_⟩
  simp only [spec_RoomsOf.l1]
  rw [if_neg (by omega), List.drop_of_length_le (by omega)]
  simp
 | d + 1, i, n, hi, h0, hn => by
  have hlt : i < m.length := by omega
  have e9 : wrap64 ((i : Int) + 1) = ((i + 1 : Nat) : Int) := by rw [w64 (by omega) (by omega)]; rfl
  have e8 : wrap64 (n + 1) = n + 1 := w64 (by omega) (by omega)
  obtain ⟨K1, h1⟩ := specRooms_l1 a b s l hl acc z m hm d (i + 1) n (by omega) h0 (by omega)
  obtain ⟨K2, h2⟩ := specRooms_l1 a b s l hl acc z m hm d (i + 1) (n + 1) (by omega) (by omega) (by omega)
  refine ⟨K1 + K2 + l.length + 2, fun k hk => ?_⟩
  obtain ⟨k, rfl⟩ : ∃ m, k = m + 1 := ⟨k - 1, by omega⟩
  simp only [spec_RoomsOf.l1]
  rw [if_pos (by omega), if_pos (by omega), has_eq l _ (by omega) k (by omega), Option.bind_some, e9, e8, drop_cons m i hlt, rd_get m i hlt, List.filter_cons]
  by_cases c : m[i] ∈ l
  ·obtain ⟨k', q1, q2, q3⟩ := h1 k (by omega)
   refine ⟨k', by omega, by omega, ?_⟩
   rw [decide_eq_true c, if_pos rfl, q3]
   simp [c]
  ·obtain ⟨k', q1, q2, q3⟩ := h2 k (by omega)
   refine ⟨k', by omega, by omega, ?_⟩
   rw [decide_eq_false c, if_neg (by decide), q3]
   simp only [Bool.not_false, reduceIte, List.length_cons]
   rw [show n + 1 + (((m.drop (i + 1)).filter fun x => !(decide (x ∈ l))).length : Int) = n + ((((m.drop (i + 1)).filter fun x => !(decide (x ∈ l))).length + 1 : Nat) : Int) by omega]
theorem specRooms_l0 (a b : Int) (s : ByteArray) (hs : s.size ≤ 1048576) (l : List Int) (hl : l.length ≤ 1048576) (hG : Gok a b s) : ∀ (d i : Nat) (acc : List Int), i + d = 6 → acc.length ≤ i → ∃ K, ∀ k, K ≤ k → spec_RoomsOf.l0 k l acc (i : Int) a b s = some (acc ++ roomsFrom a b s l d i)
 | 0, i, acc, hi, ha => by
  refine ⟨2, fun k hk => ?_⟩
  obtain ⟨k, rfl⟩ : ∃ m, k = m + 2 := ⟨k - 2, by omega⟩
  simp only [spec_RoomsOf.l0]
  rw [if_neg (by omega)]
  simp only [spec_RoomsOf.j1, Bool.false_eq_true, reduceIte]
  simp [roomsFrom]
 | d + 1, i, acc, hi, ha => by
  obtain ⟨g, K1, h1, hg⟩ := gridOk_ev a b s hs
  obtain rfl := hg.mpr hG
  obtain ⟨K2, h2⟩ := specParks_ev a b s hs (i : Int)
  obtain ⟨K3, h3⟩ := specRooms_l1 a b s l hl acc (i : Int) (parks a b s (i : Int)) (parks_len a b s _) (parks a b s (i : Int)).length 0 0 (by omega) (Int.le_refl _) (by omega)
  obtain ⟨K, h⟩ := specRooms_l0 a b s hs l hl hG d (i + 1) (acc ++ [room a b s l (i : Int)]) (by omega) (by simp; omega)
  have e9 : wrap64 ((i : Int) + 1) = ((i + 1 : Nat) : Int) := by rw [w64 (by omega) (by omega)]; rfl
  have hpl := parks_len a b s (i : Int)
  refine ⟨K + K1 + K2 + K3 + 70, fun k hk => ?_⟩
  obtain ⟨k, rfl⟩ : ∃ m, k = m + 2 := ⟨k - 2, by omega⟩
  simp only [spec_RoomsOf.l0]
  rw [if_pos (by omega), (h1 (k + 1) (by omega)).1, Option.bind_some]
  simp only [spec_RoomsOf.j1, reduceIte]
  rw [h2 k (by omega), Option.bind_some]
  obtain ⟨k', q1, q2, q3⟩ := h3 k (by omega)
  rw [show ((0 : Nat) : Int) = 0 from rfl, Int.zero_add, List.drop_zero] at q3
  rw [q3, if_pos (by omega), e9]
  have := h k' (by omega)
  unfold room at this
  rw [this, roomsFrom, room]
  simp
theorem specRooms_ev (a b : Int) (s : ByteArray) (hs : s.size ≤ 1048576) (l : List Int) (hl : l.length ≤ 1048576) : ∃ K, ∀ k, K ≤ k → spec_RoomsOf.f k a b s l = some (rooms a b s l) := by
 by_cases hG : Gok a b s
 ·obtain ⟨K, h⟩ := specRooms_l0 a b s hs l hl hG 6 0 [] (by omega) (by simp)
  refine ⟨K, fun k hk => ?_⟩
  have h0 := h k hk
  rw [show ((0 : Nat) : Int) = 0 from rfl] at h0
  unfold spec_RoomsOf.f rooms
  rw [h0, if_pos hG]
  simp
 ·obtain ⟨g, K1, h1, hg⟩ := gridOk_ev a b s hs
  have : g = false := by
   cases g with
   | false => rfl
   | true => exact absurd (hg.mp rfl) hG
  subst this
  refine ⟨K1 + 2, fun k hk => ?_⟩
  obtain ⟨k, rfl⟩ : ∃ m, k = m + 2 := ⟨k - 2, by omega⟩
  unfold spec_RoomsOf.f rooms
  simp only [spec_RoomsOf.l0]
  rw [if_pos (by omega), (h1 (k + 1) (by omega)).1, Option.bind_some, if_neg hG]
  simp only [spec_RoomsOf.j1, Bool.false_eq_true, reduceIte]
end Go.Proofs.Ytannkhefallkhaa.Pure
/- Plain facts about sorting: a sorted list without its neighbours' doubles is the one strictly ascending list of the same numbers. -/
namespace Go.Proofs.Ytannkhefallkhaa.Pure
open Go.Lib
abbrev Asc (l : List Int) : Prop := l.Pairwise (· < ·)
theorem asc_unique : ∀ (a b : List Int), Asc a → Asc b → (∀ x, x ∈ a ↔ x ∈ b) → a = b
 | [], [], _, _, _ => rfl
 | [], y :: ys, _, _, h => absurd ((h y).mpr List.mem_cons_self) (by simp)
 | x :: xs, [], _, _, h => absurd ((h x).mp List.mem_cons_self) (by simp)
 | x :: xs, y :: ys, ha, hb, h => by
  obtain ⟨ha1, ha2⟩ := List.pairwise_cons.mp ha
  obtain ⟨hb1, hb2⟩ := List.pairwise_cons.mp hb
  have hxy : x = y := by
   rcases List.mem_cons.mp ((h x).mp List.mem_cons_self) with e | e
   ·exact e
   ·rcases List.mem_cons.mp ((h y).mpr List.mem_cons_self) with e2 | e2
    ·exact e2.symm
    ·have := ha1 y e2; have := hb1 x e; omega
  subst hxy
  congr 1
  refine asc_unique xs ys ha2 hb2 fun z => ?_
  constructor
  ·intro hz
   rcases List.mem_cons.mp ((h z).mp (List.mem_cons_of_mem _ hz)) with e | e
   ·have := ha1 z hz; omega
   ·exact e
  ·intro hz
   rcases List.mem_cons.mp ((h z).mpr (List.mem_cons_of_mem _ hz)) with e | e
   ·have := hb1 z hz; omega
   ·exact e
theorem compactUpTo_asc (d : Array Int) (hs : ∀ i j, i < j → j < d.size → d[i]! ≤ d[j]!) : ∀ m, m ≤ d.size → Asc (compactUpTo d m) ∧ (∀ x, x ∈ compactUpTo d m ↔ ∃ j, j < m ∧ d[j]! = x)
 | 0, _ => ⟨by simp [compactUpTo], fun x => by simp [compactUpTo]⟩
 | m + 1, hm => by
  obtain ⟨h1, h2⟩ := compactUpTo_asc d hs m (by omega)
  rw [compactUpTo_succ]
  by_cases hk : keeps d m = true
  ·rw [if_pos hk]
   constructor
   ·refine List.pairwise_append.mpr ⟨h1, List.pairwise_singleton _ _, fun x hx y hy => ?_⟩
    obtain rfl := List.mem_singleton.mp hy
    obtain ⟨j, hj, rfl⟩ := (h2 x).mp hx
    have hk' : m = 0 ∨ d[m]! ≠ d[m - 1]! := by simpa [keeps] using hk
    rcases hk' with e | e
    ·omega
    ·have e1 := hs (m - 1) m (by omega) (by omega)
     rcases Nat.eq_or_lt_of_le (show j ≤ m - 1 by omega) with e2 | e2
     ·subst e2; omega
     ·have := hs j (m - 1) e2 (by omega); omega
   ·intro x
    rw [List.mem_append, h2, List.mem_singleton]
    constructor
    ·rintro (⟨j, hj, e⟩ | e)
     ·exact ⟨j, by omega, e⟩
     ·exact ⟨m, by omega, e.symm⟩
    ·rintro ⟨j, hj, e⟩
     by_cases c : j = m
     ·subst c; exact .inr e.symm
     ·exact .inl ⟨j, by omega, e⟩
  ·rw [if_neg hk, List.append_nil]
   refine ⟨h1, fun x => ?_⟩
   rw [h2]
   have hk' : ¬ (m = 0 ∨ d[m]! ≠ d[m - 1]!) := by simpa [keeps] using hk
   have hm0 : m ≠ 0 := fun e => hk' (.inl e)
   have he : d[m]! = d[m - 1]! := Decidable.not_not.mp (fun e => hk' (.inr e))
   constructor
   ·rintro ⟨j, hj, e⟩; exact ⟨j, by omega, e⟩
   ·rintro ⟨j, hj, e⟩
    by_cases c : j = m
    ·subst c; exact ⟨j - 1, by omega, by rw [← he]; exact e⟩
    ·exact ⟨j, by omega, e⟩
def asc (l : List Int) : List Int := Lib.compact (l.mergeSort fun x y => decide (x ≤ y))
theorem asc_spec (l : List Int) : Asc (asc l) ∧ ∀ x, x ∈ asc l ↔ x ∈ l := by
 have hp : (l.mergeSort fun x y => decide (x ≤ y)).Pairwise fun x y => decide (x ≤ y) = true :=
  List.pairwise_mergeSort (fun a b c h1 h2 => decide_eq_true (by have := of_decide_eq_true h1; have := of_decide_eq_true h2; omega)) (fun a b => by
   by_cases h : a ≤ b
   ·simp [h]
   ·simp; omega) l
 have hperm := List.mergeSort_perm l fun x y => decide (x ≤ y)
 unfold asc
 generalize (l.mergeSort fun x y => decide (x ≤ y)) = s at hp hperm
 have hs : ∀ i j, i < j → j < s.toArray.size → s.toArray[i]! ≤ s.toArray[j]! := by
  intro i j h1 h2
  have h2' : j < s.length := by simpa using h2
  have := List.pairwise_iff_getElem.mp hp i j (by omega) h2' h1
  rw [getElem!_pos s.toArray i (by simp; omega), getElem!_pos s.toArray j h2]
  simpa using this
 obtain ⟨h1, h2⟩ := compactUpTo_asc s.toArray hs s.length (by simp)
 refine ⟨h1, fun x => ?_⟩
 unfold Lib.compact
 rw [h2, ← hperm.mem_iff]
 constructor
 ·rintro ⟨j, hj, rfl⟩
  rw [getElem!_pos s.toArray j (by simpa using hj)]
  simp
 ·intro hx
  obtain ⟨j, hj, e⟩ := List.getElem_of_mem hx
  exact ⟨j, hj, by rw [getElem!_pos s.toArray j (by simpa using hj)]; simpa using e⟩
theorem asc_of (l m : List Int) (h : Asc m) (hm : ∀ x, x ∈ m ↔ x ∈ l) : asc l = m :=
 asc_unique _ _ (asc_spec l).1 h fun x => by rw [(asc_spec l).2, hm]
theorem nodup_sub_length : ∀ (a b : List Int), a.Nodup → (∀ x, x ∈ a → x ∈ b) → a.length ≤ b.length
 | [], _, _, _ => Nat.zero_le _
 | x :: xs, b, hn, h => by
  obtain ⟨h1, h2⟩ := List.nodup_cons.mp hn
  have hx : x ∈ b := h x List.mem_cons_self
  have := nodup_sub_length xs (b.erase x) h2 fun y hy => (List.mem_erase_of_ne (fun e => h1 (by rw [← e]; exact hy))).mpr (h y (List.mem_cons_of_mem _ hy))
  rw [List.length_erase_of_mem hx] at this
  have hb : 0 < b.length := List.length_pos_of_mem hx
  simp only [List.length_cons]
  omega
theorem asc_nodup {l : List Int} (h : Asc l) : l.Nodup := List.Pairwise.imp (fun hlt e => by omega) h
theorem asc_length (l : List Int) : (asc l).length ≤ l.length := nodup_sub_length _ _ (asc_nodup (asc_spec l).1) fun x hx => ((asc_spec l).2 x).mp hx
end Go.Proofs.Ytannkhefallkhaa.Pure
/- The reference's sorted lists: ascending, each number once. -/
namespace Go.Proofs.Ytannkhefallkhaa.Pure
open Go.RowKit Go.Proofs.Ytannkhefallkhaa.Q Go.Proofs.YtannkhefallkhaaW.PrintWords Go.Proofs.YtannkhefallkhaaW.PrintLast
def push (out : List Int) (x : Int) : List Int := if out.length = 0 then out ++ [x] else if rd out ((out.length - 1 : Nat) : Int) = x then out else out ++ [x]
theorem push_len (out : List Int) (x : Int) : (push out x).length ≤ out.length + 1 := by
 unfold push
 split
 ·simp
 ·split <;> simp
theorem asc_last (out : List Int) (h : Asc out) (h0 : out.length ≠ 0) : rd out ((out.length - 1 : Nat) : Int) ∈ out ∧ ∀ x ∈ out, x ≤ rd out ((out.length - 1 : Nat) : Int) := by
 have hl : out.length - 1 < out.length := by omega
 rw [rd_get out _ hl]
 refine ⟨List.getElem_mem hl, fun x hx => ?_⟩
 obtain ⟨i, hi, e⟩ := List.getElem_of_mem hx
 by_cases c : i = out.length - 1
 ·subst c; omega
 ·have := List.pairwise_iff_getElem.mp h i (out.length - 1) hi hl (by omega)
  omega
theorem push_spec (out : List Int) (y : Int) (h : Asc out) (hy : ∀ x ∈ out, x ≤ y) : Asc (push out y) ∧ ∀ x, x ∈ push out y ↔ x ∈ out ∨ x = y := by
 unfold push
 by_cases h0 : out.length = 0
 ·rw [if_pos h0, List.eq_nil_of_length_eq_zero h0]
  simp
 ·rw [if_neg h0]
  obtain ⟨h1, h2⟩ := asc_last out h h0
  by_cases e : rd out ((out.length - 1 : Nat) : Int) = y
  ·rw [if_pos e]
   exact ⟨h, fun x => ⟨.inl, fun hx => hx.elim id (fun e2 => by rw [e2, ← e]; exact h1)⟩⟩
  ·rw [if_neg e]
   refine ⟨List.pairwise_append.mpr ⟨h, List.pairwise_singleton _ _, fun x hx z hz => ?_⟩, fun x => by simp⟩
   obtain rfl := List.mem_singleton.mp hz
   have := h2 x hx
   have := hy _ h1
   omega
theorem j2_push (out : List Int) (x : Int) (hl : out.length < 17592186044416) (A B : Option (List Int)) : (if (out.length : Int) = 0 then (if out.length < 17592186044416 then A else (none)) else (if 0 ≤ (wrap64 ((out.length : Int) - 1)) then (if (wrap64 ((out.length : Int) - 1)) < (out.length : Int) then (if (rd out (wrap64 ((out.length : Int) - 1))) = x then B else (if out.length < 17592186044416 then A else (none))) else (none)) else (none))) = (if out.length = 0 then A else if rd out ((out.length - 1 : Nat) : Int) = x then B else A) := by
 by_cases h0 : out.length = 0
 ·rw [if_pos (by omega), if_pos hl, if_pos h0]
 ·have e : wrap64 ((out.length : Int) - 1) = ((out.length - 1 : Nat) : Int) := by rw [w64 (by omega) (by omega)]; omega
  rw [if_neg (by omega), e, if_pos (by omega), if_pos (by omega), if_pos hl, if_neg h0]
theorem push_ite (k : Nat) (a b out : List Int) (x i j : Int) : (if out.length = 0 then spec_l11Sorted.l0 k a b (out ++ [x]) i j else if rd out ((out.length - 1 : Nat) : Int) = x then spec_l11Sorted.l0 k a b out i j else spec_l11Sorted.l0 k a b (out ++ [x]) i j) = spec_l11Sorted.l0 k a b (push out x) i j := by
 unfold push
 by_cases h0 : out.length = 0
 ·rw [if_pos h0, if_pos h0]
 ·rw [if_neg h0, if_neg h0]
  by_cases h1 : rd out ((out.length - 1 : Nat) : Int) = x
  ·rw [if_pos h1, if_pos h1]
  ·rw [if_neg h1, if_neg h1]
theorem j2_true (k : Nat) (a b out : List Int) (i : Nat) (y : Int) (hi : (i : Int) < (a.length : Int)) (ho : out.length < 17592186044416) (hn : (i : Int) + 1 ≤ 9223372036854775807) : spec_l11Sorted.j2 (k + 1) a b out (i : Int) y true = spec_l11Sorted.l0 k a b (push out (rd a (i : Int))) ((i + 1 : Nat) : Int) y := by
 have e9 : wrap64 ((i : Int) + 1) = ((i + 1 : Nat) : Int) := by rw [w64 (by omega) (by omega)]; rfl
 have h0 : (0 : Int) ≤ i := by omega
 rw [spec_l11Sorted.j2, if_pos rfl, if_pos h0, if_pos hi, e9]
 exact (j2_push out (rd a (i : Int)) ho (spec_l11Sorted.l0 k a b (out ++ [rd a (i : Int)]) ((i + 1 : Nat) : Int) y) (spec_l11Sorted.l0 k a b out ((i + 1 : Nat) : Int) y)).trans (push_ite k a b out (rd a (i : Int)) ((i + 1 : Nat) : Int) y)
theorem j2_false (k : Nat) (a b out : List Int) (x : Int) (j : Nat) (hj : (j : Int) < (b.length : Int)) (ho : out.length < 17592186044416) (hn : (j : Int) + 1 ≤ 9223372036854775807) : spec_l11Sorted.j2 (k + 1) a b out x (j : Int) false = spec_l11Sorted.l0 k a b (push out (rd b (j : Int))) x ((j + 1 : Nat) : Int) := by
 have e9 : wrap64 ((j : Int) + 1) = ((j + 1 : Nat) : Int) := by rw [w64 (by omega) (by omega)]; rfl
 have h0 : (0 : Int) ≤ j := by omega
 rw [spec_l11Sorted.j2, if_neg (by decide), if_pos h0, if_pos hj, e9]
 exact (j2_push out (rd b (j : Int)) ho (spec_l11Sorted.l0 k a b (out ++ [rd b (j : Int)]) x ((j + 1 : Nat) : Int)) (spec_l11Sorted.l0 k a b out x ((j + 1 : Nat) : Int))).trans (push_ite k a b out (rd b (j : Int)) x ((j + 1 : Nat) : Int))
theorem step_a (k : Nat) (a b out : List Int) (i j : Nat) (hi : i < a.length) (hc : b.length ≤ j ∨ rd a (i : Int) ≤ rd b (j : Int)) (ho : out.length < 17592186044416) (hn : a.length ≤ 2000000) : spec_l11Sorted.l0 (k + 3) a b out (i : Int) (j : Int) = spec_l11Sorted.l0 k a b (push out (rd a (i : Int))) ((i + 1 : Nat) : Int) (j : Int) := by
 have h1 : (i : Int) < (a.length : Int) := by omega
 have h2 : (0 : Int) ≤ i := by omega
 have h3 : (0 : Int) ≤ j := by omega
 have hj := j2_true k a b out i (j : Int) h1 ho (by omega)
 rw [spec_l11Sorted.l0, if_pos h1, spec_l11Sorted.j1, if_pos rfl]
 by_cases cj : (j : Int) ≥ (b.length : Int)
 ·rw [if_pos cj]; exact hj
 ·have h4 : (j : Int) < (b.length : Int) := by omega
  have h5 : rd a (i : Int) ≤ rd b (j : Int) := hc.elim (fun h => absurd (show (j : Int) ≥ (b.length : Int) by omega) cj) id
  rw [if_neg cj, if_pos h1, if_pos h2, if_pos h3, if_pos h4, decide_eq_true h5]
  exact hj
theorem step_b (k : Nat) (a b out : List Int) (i j : Nat) (hj : j < b.length) (hc : i < a.length → ¬ rd a (i : Int) ≤ rd b (j : Int)) (ho : out.length < 17592186044416) (hn : b.length ≤ 2000000) : spec_l11Sorted.l0 (k + 3) a b out (i : Int) (j : Int) = spec_l11Sorted.l0 k a b (push out (rd b (j : Int))) (i : Int) ((j + 1 : Nat) : Int) := by
 have h1 : (j : Int) < (b.length : Int) := by omega
 have h2 : (0 : Int) ≤ i := by omega
 have h3 : (0 : Int) ≤ j := by omega
 have h4 : ¬ (j : Int) ≥ (b.length : Int) := by omega
 have hj2 := j2_false k a b out (i : Int) j h1 ho (by omega)
 have hj1 : spec_l11Sorted.j1 (k + 2) a b out (i : Int) (j : Int) true = spec_l11Sorted.l0 k a b (push out (rd b (j : Int))) (i : Int) ((j + 1 : Nat) : Int) := by
  rw [spec_l11Sorted.j1, if_pos rfl, if_neg h4]
  by_cases ci : (i : Int) < (a.length : Int)
  ·have h5 := hc (by omega)
   rw [if_pos ci, if_pos h2, if_pos h3, if_pos h1, decide_eq_false h5]
   exact hj2
  ·rw [if_neg ci]; exact hj2
 rw [spec_l11Sorted.l0]
 by_cases ci : (i : Int) < (a.length : Int)
 ·rw [if_pos ci]; exact hj1
 ·rw [if_neg ci, decide_eq_true h1]; exact hj1
theorem step_end (k : Nat) (a b out : List Int) (i j : Nat) (hi : a.length ≤ i) (hj : b.length ≤ j) : spec_l11Sorted.l0 (k + 2) a b out (i : Int) (j : Int) = some out := by
 have h1 : ¬ (i : Int) < (a.length : Int) := by omega
 have h2 : ¬ (j : Int) < (b.length : Int) := by omega
 rw [spec_l11Sorted.l0, if_neg h1, decide_eq_false h2, spec_l11Sorted.j1, if_neg (by decide)]
theorem merge_l0 (a b : List Int) (ha : Asc a) (hb : Asc b) (hn : a.length + b.length ≤ 2000000) : ∀ (d i j : Nat) (out : List Int), (a.length - i) + (b.length - j) = d → i ≤ a.length → j ≤ b.length → out.length ≤ i + j → Asc out → (∀ x ∈ out, (∀ y ∈ a.drop i, x ≤ y) ∧ (∀ y ∈ b.drop j, x ≤ y)) →
  ∃ v K, (∀ k, K ≤ k → spec_l11Sorted.l0 k a b out (i : Int) (j : Int) = some v) ∧ Asc v ∧ ∀ x, x ∈ v ↔ x ∈ out ∨ x ∈ a.drop i ∨ x ∈ b.drop j
 | 0, i, j, out, hd, hi, hj, ho, hA, hle => by
  refine ⟨out, 2, fun k hk => ?_, hA, fun x => ?_⟩
  ·obtain ⟨k, rfl⟩ : ∃ m, k = m + 2 := ⟨k - 2, by omega⟩
   exact step_end k a b out i j (by omega) (by omega)
  ·rw [List.drop_of_length_le (by omega), List.drop_of_length_le (by omega)]
   simp
 | d + 1, i, j, out, hd, hi, hj, ho, hA, hle => by
  by_cases hc : i < a.length ∧ (b.length ≤ j ∨ rd a (i : Int) ≤ rd b (j : Int))
  ·obtain ⟨hia, hcmp⟩ := hc
   have hda := drop_cons a i hia
   have hra := rd_get a i hia
   have hmin : ∀ x ∈ out, x ≤ a[i] := fun x hx => (hle x hx).1 _ (by rw [hda]; exact List.mem_cons_self)
   obtain ⟨hp1, hp2⟩ := push_spec out a[i] hA hmin
   have hpl := push_len out a[i]
   have hasc := List.pairwise_cons.mp (by rw [← hda]; exact List.Pairwise.sublist (List.drop_sublist i a) ha)
   obtain ⟨v, K, h, hv, hm⟩ := merge_l0 a b ha hb hn d (i + 1) j (push out a[i]) (by omega) (by omega) hj (by omega) hp1 (fun x hx => by
    rcases (hp2 x).mp hx with hx | rfl
    ·exact ⟨fun y hy => (hle x hx).1 y (by rw [hda]; exact List.mem_cons_of_mem _ hy), (hle x hx).2⟩
    ·refine ⟨fun y hy => Int.le_of_lt (hasc.1 y hy), fun y hy => ?_⟩
     rcases hcmp with hcmp | hcmp
     ·rw [List.drop_of_length_le hcmp] at hy; cases hy
     ·have hjb : j < b.length := by
       rcases Nat.lt_or_ge j b.length with h | h
       ·exact h
       ·rw [List.drop_of_length_le h] at hy; cases hy
      rw [hra, rd_get b j hjb] at hcmp
      rw [drop_cons b j hjb] at hy
      have hbs := List.pairwise_cons.mp (by rw [← drop_cons b j hjb]; exact List.Pairwise.sublist (List.drop_sublist j b) hb)
      rcases List.mem_cons.mp hy with rfl | hy
      ·exact hcmp
      ·have := hbs.1 y hy; omega)
   refine ⟨v, K + 3, fun k hk => ?_, hv, fun x => ?_⟩
   ·obtain ⟨k, rfl⟩ : ∃ m, k = m + 3 := ⟨k - 3, by omega⟩
    rw [step_a k a b out i j hia hcmp (by omega) (by omega), hra]
    exact h k (by omega)
   ·rw [hm, hp2, hda, List.mem_cons]
    constructor
    ·rintro ((h | h) | h | h)
     ·exact .inl h
     ·exact .inr (.inl (.inl h))
     ·exact .inr (.inl (.inr h))
     ·exact .inr (.inr h)
    ·rintro (h | (h | h) | h)
     ·exact .inl (.inl h)
     ·exact .inl (.inr h)
     ·exact .inr (.inl h)
     ·exact .inr (.inr h)
  ·have hjb : j < b.length := by
    rcases Nat.lt_or_ge j b.length with h | h
    ·exact h
    ·exact absurd ⟨by omega, .inl h⟩ hc
   have hdb := drop_cons b j hjb
   have hrb := rd_get b j hjb
   have hmin : ∀ x ∈ out, x ≤ b[j] := fun x hx => (hle x hx).2 _ (by rw [hdb]; exact List.mem_cons_self)
   obtain ⟨hp1, hp2⟩ := push_spec out b[j] hA hmin
   have hpl := push_len out b[j]
   have hasc := List.pairwise_cons.mp (by rw [← hdb]; exact List.Pairwise.sublist (List.drop_sublist j b) hb)
   obtain ⟨v, K, h, hv, hm⟩ := merge_l0 a b ha hb hn d i (j + 1) (push out b[j]) (by omega) hi (by omega) (by omega) hp1 (fun x hx => by
    rcases (hp2 x).mp hx with hx | rfl
    ·exact ⟨(hle x hx).1, fun y hy => (hle x hx).2 y (by rw [hdb]; exact List.mem_cons_of_mem _ hy)⟩
    ·refine ⟨fun y hy => ?_, fun y hy => Int.le_of_lt (hasc.1 y hy)⟩
     have hia : i < a.length := by
      rcases Nat.lt_or_ge i a.length with h | h
      ·exact h
      ·rw [List.drop_of_length_le h] at hy; cases hy
     have hcmp : ¬ rd a (i : Int) ≤ rd b (j : Int) := fun h => hc ⟨hia, .inr h⟩
     rw [hrb, rd_get a i hia] at hcmp
     rw [drop_cons a i hia] at hy
     have has := List.pairwise_cons.mp (by rw [← drop_cons a i hia]; exact List.Pairwise.sublist (List.drop_sublist i a) ha)
     rcases List.mem_cons.mp hy with rfl | hy
     ·omega
     ·have := has.1 y hy; omega)
   refine ⟨v, K + 3, fun k hk => ?_, hv, fun x => ?_⟩
   ·obtain ⟨k, rfl⟩ : ∃ m, k = m + 3 := ⟨k - 3, by omega⟩
    rw [step_b k a b out i j hjb (fun h h2 => hc ⟨h, .inr h2⟩) (by omega) (by omega), hrb]
    exact h k (by omega)
   ·rw [hm, hp2, hdb, List.mem_cons]
    constructor
    ·rintro ((h | h) | h | h)
     ·exact .inl h
     ·exact .inr (.inr (.inl h))
     ·exact .inr (.inl h)
     ·exact .inr (.inr (.inr h))
    ·rintro (h | h | h | h)
     ·exact .inl (.inl h)
     ·exact .inr (.inl h)
     ·exact .inl (.inr h)
     ·exact .inr (.inr h)
theorem sorted_ev : ∀ (n : Nat) (l : List Int), l.length ≤ n → l.length ≤ 1048576 → ∃ v K, (∀ k, K ≤ k → spec_l11Sorted.f k l = some v) ∧ Asc v ∧ ∀ x, x ∈ v ↔ x ∈ l
 | 0, l, h, _ => by
  obtain rfl := List.eq_nil_of_length_eq_zero (Nat.le_zero.mp h)
  refine ⟨[], 1, fun k hk => ?_, List.Pairwise.nil, fun x => Iff.rfl⟩
  obtain ⟨k, rfl⟩ : ∃ m, k = m + 1 := ⟨k - 1, by omega⟩
  simp only [spec_l11Sorted.f]
  rw [if_pos (by decide), Option.bind_some, if_pos (by decide)]
  rfl
 | n + 1, l, h, hl => by
  by_cases h2 : l.length < 2
  ·refine ⟨l, 1, fun k hk => ?_, ?_, fun x => Iff.rfl⟩
   ·obtain ⟨k, rfl⟩ : ∃ m, k = m + 1 := ⟨k - 1, by omega⟩
    simp only [spec_l11Sorted.f]
    rw [if_pos (by omega), Option.bind_some, if_pos (by simp; omega)]
    rfl
   ·match l, h2 with
    | [], _ => exact List.Pairwise.nil
    | [x], _ => exact List.pairwise_singleton _ _
  ·have e1 : wrap64 ((l.length : Int) / 2) = ((l.length / 2 : Nat) : Int) := by rw [w64 (by omega) (by omega)]; omega
   obtain ⟨a, K1, h1, ha, hma⟩ := sorted_ev n (l.take (l.length / 2)) (by simp; omega) (by simp; omega)
   obtain ⟨b, K2, h2', hb, hmb⟩ := sorted_ev n (l.drop (l.length / 2)) (by simp; omega) (by simp; omega)
   have hla := nodup_sub_length a _ (asc_nodup ha) (fun x hx => (hma x).mp hx)
   have hlb := nodup_sub_length b _ (asc_nodup hb) (fun x hx => (hmb x).mp hx)
   rw [List.length_take] at hla
   rw [List.length_drop] at hlb
   obtain ⟨v, K3, h3, hv, hm⟩ := merge_l0 a b ha hb (by omega) _ 0 0 [] rfl (Nat.zero_le _) (Nat.zero_le _) (Nat.zero_le _) List.Pairwise.nil (fun x hx => by cases hx)
   refine ⟨v, K1 + K2 + K3 + 1, fun k hk => ?_, hv, fun x => ?_⟩
   ·obtain ⟨k, rfl⟩ : ∃ m, k = m + 1 := ⟨k - 1, by omega⟩
    simp only [spec_l11Sorted.f]
    rw [if_neg (by omega), e1, if_pos (by omega), if_pos (by omega), Int.toNat_natCast, h1 k (by omega), Option.bind_some, h2' k (by omega), Option.bind_some]
    exact h3 k (by omega)
   ·rw [hm, List.drop_zero, List.drop_zero, hma, hmb]
    constructor
    ·rintro (hx | hx | hx)
     ·cases hx
     ·exact List.mem_of_mem_take hx
     ·exact List.mem_of_mem_drop hx
    ·intro hx
     rw [← List.take_append_drop (l.length / 2) l, List.mem_append] at hx
     exact .inr hx
theorem specSorted_ev (l : List Int) (hl : l.length ≤ 1048576) : ∃ K, ∀ k, K ≤ k → spec_l11Sorted.f k l = some (asc l) := by
 obtain ⟨v, K, h, h1, h2⟩ := sorted_ev l.length l (Nat.le_refl _) hl
 exact ⟨K, fun k hk => by rw [h k hk, asc_of l v h1 h2]⟩
end Go.Proofs.Ytannkhefallkhaa.Pure
/- WantedOf: the program's parking cells and the reference's. -/
namespace Go.Proofs.Ytannkhefallkhaa.Pure
open Go.RowKit Go.Proofs.Ytannkhefallkhaa.Q Go.Proofs.YtannkhefallkhaaW.PrintWords Go.Proofs.YtannkhefallkhaaW.PrintLast Go.Proofs.YtannkhefallkhaaW.PrintMore
theorem fr_asc (s : ByteArray) : ∀ d i, (fr s d i).Pairwise (· < ·)
 | 0, _ => List.Pairwise.nil
 | d + 1, i => by
  have ih := fr_asc s d (i + 1)
  unfold fr
  split
  ·refine List.pairwise_cons.mpr ⟨fun x hx => ?_, ih⟩
   have := (fr_mem s x d (i + 1)).mp hx
   omega
  ·exact ih
theorem frees_asc (a b : Int) (s : ByteArray) : (frees a b s).Pairwise (· < ·) := by
 unfold frees
 split
 ·exact fr_asc s _ _
 ·exact List.Pairwise.nil
noncomputable def lefts (a b : Int) (s : ByteArray) (l : List Int) (z : Int) : List Int := (parks a b s z).filter fun x => !(decide (x ∈ l))
theorem lefts_asc (a b : Int) (s : ByteArray) (l : List Int) (z : Int) : (lefts a b s l z).Pairwise (· < ·) :=
 List.Pairwise.sublist (List.filter_sublist.trans List.filter_sublist) (frees_asc a b s)
theorem lefts_len (a b : Int) (s : ByteArray) (l : List Int) (z : Int) : ((lefts a b s l z).length : Int) = room a b s l z := rfl
theorem lefts_mem (a b : Int) (s : ByteArray) (l : List Int) (z x : Int) : x ∈ lefts a b s l z ↔ (Gok a b s ∧ Fr s x) ∧ (Pk s x ∧ bt s x - 65 = z) ∧ x ∉ l := by
 unfold lefts parks
 rw [List.mem_filter, List.mem_filter, frees_mem]
 unfold pz
 simp only [decide_eq_true_eq, Bool.not_eq_true', decide_eq_false_iff_not]
 constructor
 ·rintro ⟨⟨h1, h2⟩, h3⟩; exact ⟨h1, h2, h3⟩
 ·rintro ⟨h1, h2, h3⟩; exact ⟨⟨h1, h2⟩, h3⟩
noncomputable def outF (a b : Int) (s : ByteArray) (l p : List Int) : Nat → Nat → List Int
 | 0, _ => []
 | d + 1, i => (lefts a b s l (i : Int)).take (rd p (i : Int)).toNat ++ outF a b s l p d (i + 1)
theorem outF_len (a b : Int) (s : ByteArray) (l p : List Int) : ∀ d i, (outF a b s l p d i).length ≤ 64 * d
 | 0, _ => Nat.le_refl _
 | d + 1, i => by
  have h1 := outF_len a b s l p d (i + 1)
  have h2 := lefts_len a b s l (i : Int)
  have h3 := room_bound a b s l (i : Int)
  unfold outF
  rw [List.length_append, List.length_take]
  omega
theorem outF_mem (a b : Int) (s : ByteArray) (l p : List Int) (x : Int) : ∀ d i, x ∈ outF a b s l p d i → ∃ z : Nat, i ≤ z ∧ z < i + d ∧ x ∈ (lefts a b s l (z : Int)).take (rd p (z : Int)).toNat
 | 0, _, h => by cases h
 | d + 1, i, h => by
  unfold outF at h
  rcases List.mem_append.mp h with e | e
  ·exact ⟨i, Nat.le_refl _, by omega, e⟩
  ·obtain ⟨z, h1, h2, h3⟩ := outF_mem a b s l p x d (i + 1) e
   exact ⟨z, by omega, by omega, h3⟩
theorem outF_nodup (a b : Int) (s : ByteArray) (l p : List Int) : ∀ d i, (outF a b s l p d i).Nodup
 | 0, _ => List.Pairwise.nil
 | d + 1, i => by
  unfold outF
  refine List.nodup_append.mpr ⟨?_, outF_nodup a b s l p d (i + 1), ?_⟩
  ·exact List.Pairwise.imp (fun {x y} (h : x < y) e => by omega) (List.Pairwise.sublist (List.take_sublist _ _) (lefts_asc a b s l (i : Int)))
  ·intro x hx y hy e
   subst e
   obtain ⟨z, h1, h2, h3⟩ := outF_mem a b s l p x d (i + 1) hy
   have q1 := ((lefts_mem a b s l (i : Int) x).mp (List.mem_of_mem_take hx)).2.1.2
   have q2 := ((lefts_mem a b s l (z : Int) x).mp (List.mem_of_mem_take h3)).2.1.2
   omega
theorem sort_asc (l : List Int) (h : l.Nodup) : (l.mergeSort fun x y => decide (x ≤ y)) = asc l := by
 have hp : (l.mergeSort fun x y => decide (x ≤ y)).Pairwise fun x y => decide (x ≤ y) = true :=
  List.pairwise_mergeSort (fun a b c h1 h2 => decide_eq_true (by have := of_decide_eq_true h1; have := of_decide_eq_true h2; omega)) (fun a b => by
   by_cases h : a ≤ b
   ·simp [h]
   ·simp; omega) l
 have hperm := List.mergeSort_perm l fun x y => decide (x ≤ y)
 refine (asc_of l _ ?_ (fun x => hperm.mem_iff)).symm
 have hn := hperm.nodup_iff.mpr h
 refine List.Pairwise.imp (fun {x y} (h : decide (x ≤ y) = true ∧ x ≠ y) => ?_) (List.Pairwise.and hp hn)
 have := of_decide_eq_true h.1
 have := h.2
 omega
theorem rd_setN (l : List Int) (i z : Nat) (v : Int) (hi : i < l.length) : rd (l.set i v) (z : Int) = if i = z then v else rd l (z : Int) := by
 rw [rd_nat, rd_nat, List.getD_eq_getElem?_getD, List.getD_eq_getElem?_getD, List.getElem?_set]
 by_cases e : i = z
 ·rw [if_pos e, if_pos hi, if_pos e]; rfl
 ·rw [if_neg e, if_neg e]
section
variable (a b : Int) (s : ByteArray) (hs : s.size ≤ 1048576) (l : List Int) (hl : l.length ≤ 1048576)
include hs
theorem implW_l1 (p : List Int) (hp : p.length = 6) (hb : ∀ i : Nat, i < 6 → 0 ≤ rd p (i : Int) ∧ rd p (i : Int) ≤ room a b s l (i : Int)) : ∀ (d i : Nat) (acc : List Int), i + d = 6 → acc.length ≤ 64 * i → ∃ K, ∀ k, K ≤ k → impl_WantedOf.l1 k l acc p (p.length : Int) (i : Int) a b s = some ((acc ++ outF a b s l p d i).mergeSort (fun x y => decide (x ≤ y)), true)
 | 0, i, acc, hi, ha => by
  refine ⟨1, fun k hk => ?_⟩
  obtain ⟨k, rfl⟩ : ∃ m, k = m + 1 := ⟨k - 1, by omega⟩
  rw [impl_WantedOf.l1, if_neg (by omega)]
  unfold slices_Sort_int_int.f
  rw [if_pos (by omega)]
  simp only [Option.bind_some, outF, List.append_nil]
 | d + 1, i, acc, hi, ha => by
  obtain ⟨q1, q2⟩ := hb i (by omega)
  have hrl := lefts_len a b s l (i : Int)
  have hrb := room_bound a b s l (i : Int)
  obtain ⟨K1, h1⟩ := parksLeft_ev a b s hs l (i : Int)
  obtain ⟨K, h⟩ := implW_l1 p hp hb d (i + 1) (acc ++ (lefts a b s l (i : Int)).take (rd p (i : Int)).toNat) (by omega) (by rw [List.length_append, List.length_take]; omega)
  have hlt : (i : Int) < (p.length : Int) := by omega
  refine ⟨K + K1 + 1, fun k hk => ?_⟩
  obtain ⟨k, rfl⟩ : ∃ m, k = m + 1 := ⟨k - 1, by omega⟩
  have h0 := h k (by omega)
  have h1 := h1 k (by omega)
  change impl_parksLeft.f k a b s (i : Int) l = some (lefts a b s l (i : Int)) at h1
  rw [impl_WantedOf.l1, if_pos hlt, if_pos (by omega), if_pos hlt, h1, Option.bind_some, if_pos q1, if_pos (by omega), Option.bind_some, if_pos (by rw [List.length_take]; omega), show wrap64 ((i : Int) + 1) = ((i + 1 : Nat) : Int) from w64 (by omega) (by omega), h0, outF, List.append_assoc]
include hl
theorem specW_l2 (i : Nat) (hi : i < 6) (m : List Int) (hm : m.length ≤ 64) (v : List Int × Bool) : ∀ (d j : Nat) (q acc : List Int), j + d = m.length → q.length = 6 → 0 ≤ rd q (i : Int) → rd q (i : Int) ≤ 1000000 → acc.length + d ≤ 64 * (i + 1) →
  (∀ q' : List Int, q'.length = 6 → (∀ z : Nat, i < z → rd q' (z : Int) = rd q (z : Int)) → ∃ K, ∀ k, K ≤ k → spec_WantedOf.l1 k l q' (acc ++ ((m.drop j).filter fun x => !(decide (x ∈ l))).take (rd q (i : Int)).toNat) ((i + 1 : Nat) : Int) a b s = some v) →
  ∃ K, ∀ k, K ≤ k → spec_WantedOf.l2 k l q acc (i : Int) m (j : Int) a b s = some v
 | 0, j, q, acc, hj, hq, h0, hbig, hac, hc => by
  obtain ⟨K, h⟩ := hc q hq (fun _ _ => rfl)
  rw [List.drop_of_length_le (by omega)] at h
  refine ⟨K + 1, fun k hk => ?_⟩
  obtain ⟨k, rfl⟩ : ∃ m, k = m + 1 := ⟨k - 1, by omega⟩
  have := h k (by omega)
  rw [spec_WantedOf.l2, if_neg (by omega), show wrap64 ((i : Int) + 1) = ((i + 1 : Nat) : Int) from w64 (by omega) (by omega)]
  simpa using this
 | d + 1, j, q, acc, hj, hq, h0, hbig, hac, hc => by
  have hlt : j < m.length := by omega
  have hjz : (j : Int) < (m.length : Int) := by omega
  have hiq : (i : Int) < (q.length : Int) := by omega
  have hal : acc.length < 17592186044416 := by omega
  rw [drop_cons m j hlt, List.filter_cons] at hc
  by_cases c : m[j] ∈ l
  ·rw [if_neg (by simpa using c)] at hc
   obtain ⟨K, h⟩ := specW_l2 i hi m hm v d (j + 1) q acc (by omega) hq h0 hbig (by omega) hc
   refine ⟨K + l.length + 2, fun k hk => ?_⟩
   obtain ⟨k, rfl⟩ : ∃ m, k = m + 1 := ⟨k - 1, by omega⟩
   have h1 := h k (by omega)
   rw [spec_WantedOf.l2, if_pos hjz, if_pos (by omega), rd_get m j hlt, has_eq l _ (by omega) k (by omega), Option.bind_some, decide_eq_true c, if_pos rfl, show wrap64 ((j : Int) + 1) = ((j + 1 : Nat) : Int) from w64 (by omega) (by omega)]
   exact h1
  ·rw [if_pos (by simpa using c)] at hc
   by_cases c2 : rd q (i : Int) > 0
   ·have hset : rd (q.set i (rd q (i : Int) - 1)) (i : Int) = rd q (i : Int) - 1 := by rw [rd_setN q i i _ (by omega), if_pos rfl]
    obtain ⟨n, hn⟩ : ∃ n : Nat, (rd q (i : Int)).toNat = n + 1 := ⟨(rd q (i : Int)).toNat - 1, by omega⟩
    obtain ⟨K, h⟩ := specW_l2 i hi m hm v d (j + 1) (q.set i (rd q (i : Int) - 1)) (acc ++ [m[j]]) (by omega) (by simpa using hq) (by rw [hset]; omega) (by rw [hset]; omega) (by rw [List.length_append, List.length_singleton]; omega) (fun q' hq' hz => by
     obtain ⟨K, h⟩ := hc q' hq' (fun z hz2 => by rw [hz z hz2, rd_setN q i z _ (by omega), if_neg (by omega)])
     refine ⟨K, fun k hk => ?_⟩
     have := h k hk
     rw [hn, List.take_succ_cons] at this
     rw [hset, show (rd q (i : Int) - 1).toNat = n by omega, List.append_assoc, List.singleton_append]
     exact this)
    refine ⟨K + l.length + 2, fun k hk => ?_⟩
    obtain ⟨k, rfl⟩ : ∃ m, k = m + 1 := ⟨k - 1, by omega⟩
    have h1 := h k (by omega)
    rw [spec_WantedOf.l2, if_pos hjz, if_pos (by omega), rd_get m j hlt, has_eq l _ (by omega) k (by omega), Option.bind_some, decide_eq_false c, if_neg (by decide), if_pos (by omega), if_pos hiq, if_pos c2, if_pos hal, Int.toNat_natCast, show wrap64 (rd q (i : Int) - 1) = rd q (i : Int) - 1 from w64 (by omega) (by omega), show wrap64 ((j : Int) + 1) = ((j + 1 : Nat) : Int) from w64 (by omega) (by omega)]
    exact h1
   ·have hz : (rd q (i : Int)).toNat = 0 := by omega
    obtain ⟨K, h⟩ := specW_l2 i hi m hm v d (j + 1) q acc (by omega) hq h0 hbig (by omega) (fun q' hq' hz2 => by
     obtain ⟨K, h⟩ := hc q' hq' hz2
     refine ⟨K, fun k hk => ?_⟩
     have := h k hk
     rw [hz, List.take_zero] at this ⊢
     exact this)
    refine ⟨K + l.length + 2, fun k hk => ?_⟩
    obtain ⟨k, rfl⟩ : ∃ m, k = m + 1 := ⟨k - 1, by omega⟩
    have h1 := h k (by omega)
    rw [spec_WantedOf.l2, if_pos hjz, if_pos (by omega), rd_get m j hlt, has_eq l _ (by omega) k (by omega), Option.bind_some, decide_eq_false c, if_neg (by decide), if_pos (by omega), if_pos hiq, if_neg c2, show wrap64 ((j : Int) + 1) = ((j + 1 : Nat) : Int) from w64 (by omega) (by omega)]
    exact h1
theorem specW_l1 (p : List Int) (hb : ∀ i : Nat, i < 6 → 0 ≤ rd p (i : Int) ∧ rd p (i : Int) ≤ room a b s l (i : Int)) : ∀ (d i : Nat) (q acc : List Int), i + d = 6 → q.length = 6 → (∀ z : Nat, i ≤ z → z < 6 → rd q (z : Int) = rd p (z : Int)) → acc.length ≤ 64 * i → ∃ K, ∀ k, K ≤ k → spec_WantedOf.l1 k l q acc (i : Int) a b s = some (asc (acc ++ outF a b s l p d i), true)
 | 0, i, q, acc, hi, hq, hz, ha => by
  obtain ⟨K, h⟩ := specSorted_ev acc (by omega)
  refine ⟨K + 1, fun k hk => ?_⟩
  obtain ⟨k, rfl⟩ : ∃ m, k = m + 1 := ⟨k - 1, by omega⟩
  rw [spec_WantedOf.l1, if_neg (by omega), h k (by omega)]
  simp only [Option.bind_some, outF, List.append_nil]
 | d + 1, i, q, acc, hi, hq, hz, ha => by
  have hr := room_bound a b s l (i : Int)
  have hbi := hb i (by omega)
  have hqi := hz i (Nat.le_refl _) (by omega)
  obtain ⟨K1, h1⟩ := specParks_ev a b s hs (i : Int)
  have hpl := parks_len a b s (i : Int)
  obtain ⟨K, h⟩ := specW_l2 a b s hs l hl i (by omega) (parks a b s (i : Int)) hpl (asc (acc ++ outF a b s l p (d + 1) i), true) (parks a b s (i : Int)).length 0 q acc (by omega) hq (by omega) (by omega) (by omega) (fun q' hq' hz2 => by
   obtain ⟨K, h⟩ := specW_l1 p hb d (i + 1) q' (acc ++ (lefts a b s l (i : Int)).take (rd p (i : Int)).toNat) (by omega) hq' (fun z z1 z2 => by rw [hz2 z (by omega)]; exact hz z (by omega) z2) (by
    have := lefts_len a b s l (i : Int)
    rw [List.length_append, List.length_take]; omega)
   refine ⟨K, fun k hk => ?_⟩
   rw [List.drop_zero, hqi]
   rw [outF, ← List.append_assoc]
   exact h k hk)
  refine ⟨K + K1 + 1, fun k hk => ?_⟩
  obtain ⟨k, rfl⟩ : ∃ m, k = m + 1 := ⟨k - 1, by omega⟩
  have h0 := h k (by omega)
  rw [show ((0 : Nat) : Int) = 0 from rfl] at h0
  rw [spec_WantedOf.l1, if_pos (by omega), h1 k (by omega), Option.bind_some]
  exact h0
theorem implW_l0 (w r : List Int) (t : Int) (hl6 : w.length = 6) (hr : r.length = 6) (v : List Int × Bool) : ∀ (d i : Nat) (acc : Int), i + d = 6 →
  (∃ K, ∀ k, K ≤ k → (if (mn t (roomSum w r d i acc)) = 0 then (some (([] : List Int), false)) else ((impl_DealOf.f k w r (mn t (roomSum w r d i acc))).bind fun t362 => (impl_WantedOf.l1 k l ([] : List Int) t362 (t362.length : Int) 0 a b s))) = some v) → ∃ K, ∀ k, K ≤ k → impl_WantedOf.l0 k l w t r acc w (w.length : Int) (i : Int) a b s = some v
 | 0, i, acc, hi, hc => by
  obtain ⟨K, h⟩ := hc
  refine ⟨K + 1, fun k hk => ?_⟩
  obtain ⟨k, rfl⟩ : ∃ m, k = m + 1 := ⟨k - 1, by omega⟩
  rw [impl_WantedOf.l0, if_neg (by omega)]
  exact h k (by omega)
 | d + 1, i, acc, hi, hc => by
  rw [roomSum] at hc
  obtain ⟨K, h⟩ := implW_l0 w r t hl6 hr v d (i + 1) _ (by omega) hc
  refine ⟨K + 1, fun k hk => ?_⟩
  obtain ⟨k, rfl⟩ : ∃ m, k = m + 1 := ⟨k - 1, by omega⟩
  have h0 := h k (by omega)
  rw [impl_WantedOf.l0, if_pos (by omega), if_pos (by omega), if_pos (by omega), show wrap64 ((i : Int) + 1) = ((i + 1 : Nat) : Int) from w64 (by omega) (by omega)]
  by_cases c : rd w (i : Int) > 0
  ·rw [if_pos c] at h0 ⊢
   rw [if_pos (by omega)]
   exact h0
  ·rw [if_neg c] at h0 ⊢
   exact h0
theorem specW_l0 (w r : List Int) (t : Int) (hl6 : w.length = 6) (hr : r.length = 6) (v : List Int × Bool) : ∀ (d i : Nat) (acc : Int), i + d = 6 →
  (∃ K, ∀ k, K ≤ k → ((spec_Brought.f k t 0 (roomSum w r d i acc)).bind fun t246 => (if t246 = 0 then (some ((([] : List Int)), false)) else ((spec_DealOf.f k w r t246).bind fun t250 => (spec_WantedOf.l1 k l t250 (([] : List Int)) 0 a b s)))) = some v) → ∃ K, ∀ k, K ≤ k → spec_WantedOf.l0 k l w t r acc (i : Int) a b s = some v
 | 0, i, acc, hi, hc => by
  obtain ⟨K, h⟩ := hc
  refine ⟨K + 1, fun k hk => ?_⟩
  obtain ⟨k, rfl⟩ : ∃ m, k = m + 1 := ⟨k - 1, by omega⟩
  rw [spec_WantedOf.l0, if_neg (by omega)]
  exact h k (by omega)
 | d + 1, i, acc, hi, hc => by
  rw [roomSum] at hc
  obtain ⟨K, h⟩ := specW_l0 w r t hl6 hr v d (i + 1) _ (by omega) hc
  refine ⟨K + 1, fun k hk => ?_⟩
  obtain ⟨k, rfl⟩ : ∃ m, k = m + 1 := ⟨k - 1, by omega⟩
  have h0 := h k (by omega)
  rw [spec_WantedOf.l0, if_pos (by omega), if_pos (by omega), if_pos (by omega), show wrap64 ((i : Int) + 1) = ((i + 1 : Nat) : Int) from w64 (by omega) (by omega)]
  by_cases c : rd w (i : Int) > 0
  ·rw [if_pos c] at h0 ⊢
   rw [if_pos (by omega)]
   exact h0
  ·rw [if_neg c] at h0 ⊢
   exact h0
end
theorem roomsFrom_rd (a b : Int) (s : ByteArray) (l : List Int) : ∀ (d z i : Nat), i < d → rd (roomsFrom a b s l d z) (i : Int) = room a b s l ((z + i : Nat) : Int)
 | 0, _, _, h => absurd h (Nat.not_lt_zero _)
 | d + 1, z, 0, _ => by simp [roomsFrom, rd]
 | d + 1, z, i + 1, h => by
  have := roomsFrom_rd a b s l d (z + 1) i (by omega)
  rw [show z + (i + 1) = z + 1 + i by omega, ← this]
  rw [rd_nat, rd_nat]
  simp [roomsFrom]
open Classical in
noncomputable def totalW (a b : Int) (s : ByteArray) (l w : List Int) (t : Int) : Int := mn t (roomSum w (rooms a b s l) 6 0 0)
open Classical in
noncomputable def wantedL (a b : Int) (s : ByteArray) (l w : List Int) (t : Int) : List Int × Bool := if Gok a b s ∧ w.length = 6 ∧ Wants w = true ∧ 0 ≤ t then (if totalW a b s l w t = 0 then ([], false) else (asc (outF a b s l (dealL w (rooms a b s l) (totalW a b s l w t)) 6 0), true)) else ([], false)
theorem wanted_facts (a b : Int) (s : ByteArray) (l w : List Int) (t : Int) (hG : Gok a b s) (h6 : w.length = 6) (hw : Wants w = true) (ht : 0 ≤ t) : DOk w (rooms a b s l) (totalW a b s l w t) = true ∧ (rooms a b s l).length = 6 ∧ ∀ i : Nat, i < 6 → rd (rooms a b s l) (i : Int) = room a b s l (i : Int) := by
 have hr : rooms a b s l = roomsFrom a b s l 6 0 := by unfold rooms; rw [if_pos hG]
 have hlen : (rooms a b s l).length = 6 := by rw [hr, roomsFrom_len]
 have hrd : ∀ i : Nat, i < 6 → rd (rooms a b s l) (i : Int) = room a b s l (i : Int) := fun i hi => by
  rw [hr, roomsFrom_rd a b s l 6 0 i hi, Nat.zero_add]
 have hW : Wants (rooms a b s l) = true := Wants_of _ (fun x hx => by
  obtain ⟨i, hi, rfl⟩ := List.getElem_of_mem hx
  have h1 := hrd i (by omega)
  rw [rd_get _ i hi] at h1
  have := room_bound a b s l (i : Int)
  omega)
 have hle := roomSum_le w (rooms a b s l) (Small_of _ hW) 6 0 0 (by omega) (by omega) (by omega)
 refine ⟨decide_eq_true ⟨by omega, by omega, hw, hW, ?_, ?_⟩, hlen, hrd⟩
 ·unfold totalW mn; split <;> omega
 ·rw [h6]; unfold totalW mn; split <;> omega
theorem brought_ev (t m : Int) (ht : 0 ≤ t) (hm : 0 ≤ m) (k : Nat) (hk : 1 ≤ k) : spec_Brought.f k t 0 m = some (mn t m) := by
 obtain ⟨k, rfl⟩ : ∃ m, k = m + 1 := ⟨k - 1, by omega⟩
 unfold spec_Brought.f
 rw [if_neg (by omega), decide_eq_false (by omega), spec_Brought.j0, if_neg (by decide)]
 unfold mn
 by_cases c : t > m
 ·rw [if_pos c]; congr 1; split <;> omega
 ·rw [if_neg c]; congr 1; split <;> omega
theorem wanted_ev (a b : Int) (s : ByteArray) (hs : s.size ≤ 1048576) (l : List Int) (hl : l.length ≤ 1048576) (w : List Int) (hwl : w.length ≤ 1048576) (t : Int) : ∃ K, ∀ k, K ≤ k → spec_WantedOf.f k a b s l w t = some (wantedL a b s l w t) ∧ impl_WantedOf.f k a b s l w t = some (wantedL a b s l w t) := by
 obtain ⟨g, K1, h1, hg⟩ := gridOk_ev a b s hs
 obtain ⟨K2, h2⟩ := specRooms_ev a b s hs l hl
 obtain ⟨K3, h3⟩ := implRooms_ev a b s hs l
 have h4 := fun k hk => specList_eq w (by omega) k hk
 have hno : (¬ (Gok a b s ∧ w.length = 6 ∧ Wants w = true ∧ 0 ≤ t)) → wantedL a b s l w t = ([], false) := fun h => by unfold wantedL; rw [if_neg h]
 have fin : ∀ K, (∀ k, K ≤ k → spec_WantedOf.j0 k l w t true a b s = some ([], false) ∧ impl_WantedOf.j0 k l w t true a b s = some ([], false)) ∨ True := fun _ => .inr trivial
 have j0S : ∀ k, spec_WantedOf.j0 (k + 1) l w t true a b s = some ([], false) := fun k => by rw [spec_WantedOf.j0, if_pos rfl]
 have j0I : ∀ k, impl_WantedOf.j0 (k + 1) l w t true a b s = some ([], false) := fun k => by rw [impl_WantedOf.j0, if_pos rfl]
 clear fin
 cases g with
 | false =>
  have hG : ¬ Gok a b s := fun h => by have := hg.mpr h; cases this
  refine ⟨K1 + 1, fun k hk => ?_⟩
  obtain ⟨k, rfl⟩ : ∃ m, k = m + 1 := ⟨k - 1, by omega⟩
  obtain ⟨q1, q2⟩ := h1 (k + 1) (by omega)
  rw [hno (fun h => hG h.1)]
  unfold spec_WantedOf.f impl_WantedOf.f
  rw [q1, q2]
  simp only [Option.bind_some, Bool.false_eq_true, reduceIte]
  exact ⟨j0S k, j0I k⟩
 | true =>
  have hG := hg.mp rfl
  by_cases h6 : w.length = 6
  ·by_cases hw : Wants w = true
   ·by_cases ht : 0 ≤ t
    ·obtain ⟨hok, hrl, hrd⟩ := wanted_facts a b s l w t hG h6 hw ht
     have hF := deal_fair w (rooms a b s l) (totalW a b s l w t) hok
     obtain ⟨K5, h5⟩ := deal_ev w (rooms a b s l) (totalW a b s l w t) hwl (by omega)
     have hsum : 0 ≤ roomSum w (rooms a b s l) 6 0 0 := by
      obtain ⟨_, _, _, hW, _⟩ := DOk_len _ _ _ hok
      exact (roomSum_le w (rooms a b s l) (Small_of _ hW) 6 0 0 (by omega) (by omega) (by omega)).1
     have hval : wantedL a b s l w t = if totalW a b s l w t = 0 then ([], false) else (asc (outF a b s l (dealL w (rooms a b s l) (totalW a b s l w t)) 6 0), true) := by unfold wantedL; rw [if_pos ⟨hG, h6, hw, ht⟩]
     have hbb : ∀ i : Nat, i < 6 → 0 ≤ rd (dealL w (rooms a b s l) (totalW a b s l w t)) (i : Int) ∧ rd (dealL w (rooms a b s l) (totalW a b s l w t)) (i : Int) ≤ room a b s l (i : Int) := fun i hi => by
      have q1 := hF.low i (by omega)
      have q2 := hF.high i (by omega)
      rw [hrd i hi] at q2
      exact ⟨q1, q2⟩
     have hlen : (dealL w (rooms a b s l) (totalW a b s l w t)).length = 6 := by rw [hF.len]; exact h6
     obtain ⟨K6, h6'⟩ := implW_l1 a b s hs l (dealL w (rooms a b s l) (totalW a b s l w t)) hlen hbb 6 0 [] (by omega) (by simp)
     obtain ⟨K7, h7⟩ := specW_l1 a b s hs l hl (dealL w (rooms a b s l) (totalW a b s l w t)) hbb 6 0 (dealL w (rooms a b s l) (totalW a b s l w t)) [] (by omega) hlen (fun _ _ _ => rfl) (by simp)
     rw [List.nil_append] at h6' h7
     rw [sort_asc _ (outF_nodup a b s l _ 6 0)] at h6'
     rw [show ((0 : Nat) : Int) = 0 from rfl] at h6' h7
     have htot : mn t (roomSum w (rooms a b s l) 6 0 0) = totalW a b s l w t := rfl
     obtain ⟨K8, h8⟩ := implW_l0 a b s hs l hl w (rooms a b s l) t h6 hrl (wantedL a b s l w t) 6 0 0 (by omega) (by
      refine ⟨K5 + K6, fun k hk => ?_⟩
      rw [htot, hval]
      by_cases c : totalW a b s l w t = 0
      ·rw [if_pos c, if_pos c]
      ·rw [if_neg c, if_neg c, (h5 k (by omega)).2, Option.bind_some]
       exact h6' k (by omega))
     obtain ⟨K9, h9⟩ := specW_l0 a b s hs l hl w (rooms a b s l) t h6 hrl (wantedL a b s l w t) 6 0 0 (by omega) (by
      refine ⟨K5 + K7 + 1, fun k hk => ?_⟩
      rw [brought_ev t _ ht hsum k (by omega), Option.bind_some, htot, hval]
      by_cases c : totalW a b s l w t = 0
      ·rw [if_pos c, if_pos c]
      ·rw [if_neg c, if_neg c, (h5 k (by omega)).1, Option.bind_some]
       exact h7 k (by omega))
     refine ⟨K1 + K2 + K3 + K8 + K9 + w.length + 2, fun k hk => ?_⟩
     obtain ⟨k, rfl⟩ : ∃ m, k = m + 1 := ⟨k - 1, by omega⟩
     obtain ⟨q1, q2⟩ := h1 (k + 1) (by omega)
     have q3 := h8 k (by omega)
     have q4 := h9 k (by omega)
     have q5 := h4 (k + 1) (by omega)
     have q6 := h2 k (by omega)
     have q7 := h3 k (by omega)
     rw [show ((0 : Nat) : Int) = 0 from rfl] at q3 q4
     have e6 : (w.length : Int) = 6 := by omega
     have e0 : decide (t < 0) = false := decide_eq_false (by omega)
     unfold spec_WantedOf.f impl_WantedOf.f
     rw [q1, q2]
     simp only [Option.bind_some, reduceIte]
     rw [if_pos e6, if_pos e6, q5, implWants_eq]
     simp only [Option.bind_some, hw, reduceIte, e0]
     rw [spec_WantedOf.j0, impl_WantedOf.j0, if_neg (by decide), if_neg (by decide), q6, q7, Option.bind_some, Option.bind_some]
     exact ⟨q4, q3⟩
    ·refine ⟨K1 + w.length + 2, fun k hk => ?_⟩
     obtain ⟨k, rfl⟩ : ∃ m, k = m + 1 := ⟨k - 1, by omega⟩
     obtain ⟨q1, q2⟩ := h1 (k + 1) (by omega)
     have q5 := h4 (k + 1) (by omega)
     have e6 : (w.length : Int) = 6 := by omega
     have e0 : decide (t < 0) = true := decide_eq_true (by omega)
     rw [hno (fun h => ht h.2.2.2)]
     unfold spec_WantedOf.f impl_WantedOf.f
     rw [q1, q2]
     simp only [Option.bind_some, reduceIte]
     rw [if_pos e6, if_pos e6, q5, implWants_eq]
     simp only [Option.bind_some, hw, reduceIte, e0]
     exact ⟨j0S k, j0I k⟩
   ·refine ⟨K1 + w.length + 2, fun k hk => ?_⟩
    obtain ⟨k, rfl⟩ : ∃ m, k = m + 1 := ⟨k - 1, by omega⟩
    obtain ⟨q1, q2⟩ := h1 (k + 1) (by omega)
    have q5 := h4 (k + 1) (by omega)
    have e6 : (w.length : Int) = 6 := by omega
    rw [hno (fun h => hw h.2.2.1)]
    unfold spec_WantedOf.f impl_WantedOf.f
    rw [q1, q2]
    simp only [Option.bind_some, reduceIte]
    rw [if_pos e6, if_pos e6, q5, implWants_eq]
    simp only [Option.bind_some, hw, Bool.false_eq_true, reduceIte]
    exact ⟨j0S k, j0I k⟩
  ·refine ⟨K1 + 2, fun k hk => ?_⟩
   obtain ⟨k, rfl⟩ : ∃ m, k = m + 1 := ⟨k - 1, by omega⟩
   obtain ⟨q1, q2⟩ := h1 (k + 1) (by omega)
   have e6 : ¬ (w.length : Int) = 6 := by omega
   rw [hno (fun h => h6 h.2.1)]
   unfold spec_WantedOf.f impl_WantedOf.f
   rw [q1, q2]
   simp only [Option.bind_some, reduceIte]
   rw [if_neg e6, if_neg e6]
   exact ⟨j0S k, j0I k⟩
theorem wantedL_len (a b : Int) (s : ByteArray) (l w : List Int) (t : Int) : (wantedL a b s l w t).1.length ≤ 384 := by
 unfold wantedL
 split
 ·split
  ·simp
  ·have h1 := asc_length (outF a b s l (dealL w (rooms a b s l) (totalW a b s l w t)) 6 0)
   have h2 := outF_len a b s l (dealL w (rooms a b s l) (totalW a b s l w t)) 6 0
   show (asc _).length ≤ 384
   omega
 ·simp
end Go.Proofs.Ytannkhefallkhaa.Pure
/- What is drawn from bytes: a byte, a number below another, once in so many. -/
namespace Go.Proofs.Ytannkhefallkhaa.Pure
open Go.RowKit Go.Proofs.Ytannkhefallkhaa.Q Go.Proofs.YtannkhefallkhaaW.PrintWords Go.Proofs.YtannkhefallkhaaW.PrintLast
theorem and255 (n : Int) : Go.bits .and .i64 n 255 = n % 256 := by
 have h255 : (BitVec.ofInt 64 255).toNat = 2 ^ 8 - 1 := by decide
 have key : (BitVec.ofInt 64 n &&& BitVec.ofInt 64 255).toNat = (n % ((2 ^ 64 : Nat) : Int)).toNat % 2 ^ 8 := by
  rw [BitVec.toNat_and, BitVec.toNat_ofInt, h255, Nat.and_two_pow_sub_one_eq_mod]
 show IntKind.i64.wrap ((BitVec.ofInt 64 n &&& BitVec.ofInt 64 255).toNat : Nat) = n % 256
 rw [key, IntKind.wrap_i64]
 omega
theorem and255_range (n : Int) : 0 ≤ Go.bits .and .i64 n 255 ∧ Go.bits .and .i64 n 255 ≤ 255 := by rw [and255]; omega
section
variable (s : List Int) (hs : s.length ≤ 1048576)
include hs
theorem byte_ev (i h : Int) (hi : 0 ≤ i) : ∃ v i' h', spec_l01Byte.f s i h = some (v, i', h') ∧ 0 ≤ v ∧ v ≤ 255 ∧ 0 ≤ i' := by
 unfold spec_l01Byte.f
 by_cases c : i < (s.length : Int)
 ·rw [if_pos c, if_pos hi]
  refine ⟨_, _, _, rfl, (and255_range _).1, (and255_range _).2, ?_⟩
  rw [w64 (by omega) (by omega)]; omega
 ·rw [if_neg c]
  exact ⟨_, _, _, rfl, (and255_range _).1, (and255_range _).2, hi⟩
theorem below_ev (i h n : Int) (hi : 0 ≤ i) (hn : 1 ≤ n) (hn2 : n ≤ 256) : ∃ v i' h', spec_l01Below.f s i h n = some (v, i', h') ∧ 0 ≤ v ∧ v < n ∧ 0 ≤ i' := by
 obtain ⟨v, i', h', e, h0, h1, h2⟩ := byte_ev s hs i h hi
 refine ⟨Int.tmod v n, i', h', ?_, ?_, ?_, h2⟩
 ·unfold spec_l01Below.f
  rw [if_neg (by omega), if_pos hn2, e, Option.bind_some]
  simp only
  rw [if_neg (by omega)]
 ·rw [Int.tmod_eq_emod_of_nonneg h0]; exact Int.emod_nonneg _ (by omega)
 ·rw [Int.tmod_eq_emod_of_nonneg h0]; exact Int.emod_lt_of_pos _ (by omega)
theorem below4_ev (i h n : Int) (hi : 0 ≤ i) (hn : 256 < n) : ∃ v i' h', spec_l01Below.f s i h n = some (v, i', h') ∧ 0 ≤ v ∧ v < n ∧ 0 ≤ i' := by
 obtain ⟨v1, i1, h1, e1, a1, b1, c1⟩ := byte_ev s hs i h hi
 obtain ⟨v2, i2, h2, e2, a2, b2, c2⟩ := byte_ev s hs i1 h1 c1
 obtain ⟨v3, i3, h3, e3, a3, b3, c3⟩ := byte_ev s hs i2 h2 c2
 obtain ⟨v4, i4, h4, e4, a4, b4, c4⟩ := byte_ev s hs i3 h3 c3
 have hv : wrap64 ((wrap64 ((wrap64 ((wrap64 (v1 * 16777216)) + (wrap64 (v2 * 65536)))) + (wrap64 (v3 * 256)))) + v4) = v1 * 16777216 + v2 * 65536 + v3 * 256 + v4 := by
  rw [w64 (x := v1 * 16777216) (by omega) (by omega), w64 (x := v2 * 65536) (by omega) (by omega), w64 (x := v3 * 256) (by omega) (by omega), w64 (x := v1 * 16777216 + v2 * 65536) (by omega) (by omega), w64 (x := v1 * 16777216 + v2 * 65536 + v3 * 256) (by omega) (by omega), w64 (by omega) (by omega)]
 have hv0 : 0 ≤ v1 * 16777216 + v2 * 65536 + v3 * 256 + v4 := by omega
 refine ⟨Int.tmod (v1 * 16777216 + v2 * 65536 + v3 * 256 + v4) n, i4, h4, ?_, ?_, ?_, c4⟩
 ·unfold spec_l01Below.f
  rw [if_neg (by omega), if_neg (by omega), e1]
  simp only [Option.bind_some]
  rw [e2]
  simp only [Option.bind_some]
  rw [e3]
  simp only [Option.bind_some]
  rw [e4]
  simp only [Option.bind_some]
  rw [if_neg (by omega), hv]
 ·rw [Int.tmod_eq_emod_of_nonneg hv0]; exact Int.emod_nonneg _ (by omega)
 ·rw [Int.tmod_eq_emod_of_nonneg hv0]; exact Int.emod_lt_of_pos _ (by omega)
theorem new_l0 : ∀ (d i : Nat) (h : Int), i + d = min s.length 4000 → ∃ h' K, ∀ k, K ≤ k → spec_l01New.l0 k s h (i : Int) = some (s, 0, h')
 | 0, i, h, hi => by
  refine ⟨h, 1, fun k hk => ?_⟩
  obtain ⟨k, rfl⟩ : ∃ m, k = m + 1 := ⟨k - 1, by omega⟩
  simp only [spec_l01New.l0]
  by_cases c : (i : Int) < (s.length : Int)
  ·rw [if_pos c, if_neg (by omega)]
  ·rw [if_neg c]
 | d + 1, i, h, hi => by
  obtain ⟨h', K, hh⟩ := new_l0 d (i + 1) (Go.bits .and .i64 (wrap64 ((wrap64 ((wrap64 (h * 131)) + (wrap64 (rd s (i : Int))))) + 7)) 1073741823) (by omega)
  refine ⟨h', K + 1, fun k hk => ?_⟩
  obtain ⟨k, rfl⟩ : ∃ m, k = m + 1 := ⟨k - 1, by omega⟩
  simp only [spec_l01New.l0]
  rw [if_pos (by omega), if_pos (by omega), if_pos (by omega), w64 (x := (i : Int) + 1) (by omega) (by omega), show ((i : Int) + 1) = ((i + 1 : Nat) : Int) by omega]
  exact hh k (by omega)
theorem new_ev : ∃ h K, ∀ k, K ≤ k → spec_l01New.f k s = some (s, 0, h) := by
 obtain ⟨h, K, hh⟩ := new_l0 s hs (min s.length 4000) 0 (wrap64 (94701 + (s.length : Int))) (by omega)
 exact ⟨h, K, fun k hk => hh k hk⟩
end
end Go.Proofs.Ytannkhefallkhaa.Pure
/- The reference's free cells. -/
namespace Go.Proofs.Ytannkhefallkhaa.Pure
open Go.RowKit Go.Proofs.Ytannkhefallkhaa.Q Go.Proofs.YtannkhefallkhaaW.PrintWords Go.Proofs.YtannkhefallkhaaW.PrintLast
theorem specFree_l0 (a b : Int) (s : ByteArray) (hs : s.size ≤ 1048576) : ∀ (d i : Nat) (acc : List Int), i + d = min s.size 64 → acc.length ≤ i → ∃ v K, (∀ k, K ≤ k → spec_FreeCells.l0 k acc (i : Int) a b s = some v) ∧ (Gok a b s → v = acc ++ fr s d i) ∧ (¬ Gok a b s → v = acc)
 | 0, i, acc, hi, ha => by
  refine ⟨acc, 2, fun k hk => ?_, by simp [fr], fun _ => rfl⟩
  obtain ⟨k, rfl⟩ : ∃ m, k = m + 2 := ⟨k - 2, by omega⟩
  simp only [spec_FreeCells.l0]
  by_cases c : (i : Int) < (s.size : Int)
  ·rw [if_pos c, decide_eq_false (by omega)]
   simp only [spec_FreeCells.j1, Bool.false_eq_true, reduceIte]
  ·rw [if_neg c]
   simp only [spec_FreeCells.j1, Bool.false_eq_true, reduceIte]
 | d + 1, i, acc, hi, ha => by
  obtain ⟨g, K1, h1, hg⟩ := specFreeAt_ev a b s hs (i : Int)
  have e1 : (i : Int) < (s.size : Int) := by omega
  have e2 : decide ((i : Int) < 64) = true := decide_eq_true (by omega)
  have e9 : wrap64 ((i : Int) + 1) = ((i + 1 : Nat) : Int) := by rw [w64 (by omega) (by omega)]; rfl
  cases g with
  | true =>
   obtain ⟨v, K, h, hv, hw⟩ := specFree_l0 a b s hs d (i + 1) (acc ++ [(i : Int)]) (by omega) (by simp; omega)
   refine ⟨v, K + K1 + 2, fun k hk => ?_, fun hG => ?_, fun hG => absurd (hg.mp rfl).1 hG⟩
   ·obtain ⟨k, rfl⟩ : ∃ m, k = m + 2 := ⟨k - 2, by omega⟩
    simp only [spec_FreeCells.l0]
    rw [if_pos e1, e2]
    simp only [spec_FreeCells.j1, reduceIte]
    rw [h1 k (by omega), Option.bind_some, if_pos rfl, if_pos (by omega), e9]
    exact h k (by omega)
   ·rw [hv hG, fr, if_pos (hg.mp rfl).2]; simp
  | false =>
   obtain ⟨v, K, h, hv, hw⟩ := specFree_l0 a b s hs d (i + 1) acc (by omega) (by omega)
   refine ⟨v, K + K1 + 2, fun k hk => ?_, fun hG => ?_, hw⟩
   ·obtain ⟨k, rfl⟩ : ∃ m, k = m + 2 := ⟨k - 2, by omega⟩
    simp only [spec_FreeCells.l0]
    rw [if_pos e1, e2]
    simp only [spec_FreeCells.j1, reduceIte]
    rw [h1 k (by omega), Option.bind_some, if_neg (by decide), e9]
    exact h k (by omega)
   ·rw [hv hG, fr, if_neg (fun h => absurd (hg.mpr ⟨hG, h⟩) (by decide))]
theorem specFree_ev (a b : Int) (s : ByteArray) (hs : s.size ≤ 1048576) : ∃ K, ∀ k, K ≤ k → spec_FreeCells.f k a b s = some (frees a b s) := by
 obtain ⟨v, K, h, hv, hw⟩ := specFree_l0 a b s hs (min s.size 64) 0 [] (by omega) (by simp)
 refine ⟨K, fun k hk => ?_⟩
 unfold spec_FreeCells.f frees
 have := h k hk
 by_cases hG : Gok a b s
 ·rw [if_pos hG]
  have hsz := Gok_size hG
  rw [hv hG, show min s.size 64 = s.size by omega] at this
  simpa using this
 ·rw [if_neg hG]
  rw [hw hG] at this
  exact this
end Go.Proofs.Ytannkhefallkhaa.Pure
/- A right map is drawn, and some of its free cells. -/
namespace Go.Proofs.Ytannkhefallkhaa.Pure
open Go.RowKit Go.Proofs.Ytannkhefallkhaa.Q Go.Proofs.YtannkhefallkhaaW.PrintWords Go.Proofs.YtannkhefallkhaaW.PrintLast
theorem strOfNums_bt (l : List Int) (h : ∀ x ∈ l, 0 ≤ x ∧ x < 256) (i : Nat) (hi : i < l.length) : bt (strOfNums l) (i : Int) = rd l (i : Int) := by
 have hx := h l[i] (List.getElem_mem hi)
 unfold bt
 rw [dif_pos (by rw [strOfNums_size]; simpa using hi), rd_get l i hi]
 have e : (strOfNums l)[(i : Int).toNat]'(by rw [strOfNums_size]; simpa using hi) = UInt8.ofNat (l[i].toNat) := by
  show ((l.map fun n => UInt8.ofNat n.toNat).toArray)[(i : Int).toNat]'(by simpa using hi) = _
  simp
 rw [e, UInt8.toNat_ofNat']
 omega
theorem Kind_byte {x : Int} (h : Kind x) : 0 ≤ x ∧ x < 256 := by
 unfold Kind at h
 omega
section
variable (s : List Int) (hs : s.length ≤ 1048576)
include hs
theorem sized_j1 (w hh : Int) (l : List Int) (n : Nat) (hn : n ≤ 64) (hl : l.length = n) (v : Int) (b : Bool) (i h : Int) (hi : 0 ≤ i) : ∃ x i2 h2, Kind x ∧ 0 ≤ i2 ∧ ∀ k, spec_l02Sized.j1 (k + 1) w hh l (n : Int) v b s i h = spec_l02Sized.l0 k w hh (l ++ [x]) ((n + 1 : Nat) : Int) s i2 h2 := by
 have hll : l.length < 140737488355328 := by omega
 cases b with
 | true =>
  obtain ⟨u, i1, h1, e1, a1, b1, c1⟩ := below_ev s hs i h 3 hi (by omega) (by omega)
  refine ⟨65 + u, i1, h1, .inr (.inr (.inr ⟨by omega, by omega⟩)), c1, fun k => ?_⟩
  rw [spec_l02Sized.j1, if_pos rfl, e1, Option.bind_some]
  simp only
  rw [if_pos hll, show wrap64 ((n : Int) + 1) = ((n + 1 : Nat) : Int) from w64 (by omega) (by omega), show wrap64 (65 + u) = 65 + u from w64 (by omega) (by omega), Int.emod_eq_of_lt (by omega) (by omega)]
 | false =>
  by_cases c3 : v = 3
  ·obtain ⟨u, i1, h1, e1, a1, b1, c1⟩ := below_ev s hs i h 6 hi (by omega) (by omega)
   refine ⟨97 + u, i1, h1, .inr (.inr (.inl ⟨by omega, by omega⟩)), c1, fun k => ?_⟩
   rw [spec_l02Sized.j1, if_neg (by decide), if_pos c3, e1, Option.bind_some]
   simp only
   rw [if_pos hll, show wrap64 ((n : Int) + 1) = ((n + 1 : Nat) : Int) from w64 (by omega) (by omega), show wrap64 (97 + u) = 97 + u from w64 (by omega) (by omega), Int.emod_eq_of_lt (by omega) (by omega)]
  ·refine ⟨46, i, h, .inl rfl, hi, fun k => ?_⟩
   rw [spec_l02Sized.j1, if_neg (by decide), if_neg c3, if_pos hll, show wrap64 ((n : Int) + 1) = ((n + 1 : Nat) : Int) from w64 (by omega) (by omega)]
theorem sized_l0 (w hh : Int) (m : Nat) (hm : m ≤ 64) (hwm : wrap64 (w * hh) = (m : Int)) : ∀ (d n : Nat) (l : List Int) (i h : Int), n + d = m → l.length = n → (∀ x ∈ l, Kind x) → 0 ≤ i → ∃ g i' h' K, (∀ k, K ≤ k → spec_l02Sized.l0 k w hh l (n : Int) s i h = some (w, hh, strOfNums g, i', h')) ∧ g.length = m ∧ (∀ x ∈ g, Kind x) ∧ 0 ≤ i'
 | 0, n, l, i, h, hn, hl, hk, hi => by
  refine ⟨l, i, h, 1, fun k hk => ?_, by omega, hk, hi⟩
  obtain ⟨k, rfl⟩ : ∃ m, k = m + 1 := ⟨k - 1, by omega⟩
  rw [spec_l02Sized.l0, hwm, if_neg (by omega)]
 | d + 1, n, l, i, h, hn, hl, hk, hi => by
  obtain ⟨v, i1, h1, e1, a1, b1, c1⟩ := below_ev s hs i h 8 hi (by omega) (by omega)
  have hll : l.length < 140737488355328 := by omega
  have hnext : ∃ x i2 h2, Kind x ∧ 0 ≤ i2 ∧ ∀ k, spec_l02Sized.l0 (k + 2) w hh l (n : Int) s i h = spec_l02Sized.l0 k w hh (l ++ [x]) ((n + 1 : Nat) : Int) s i2 h2 ∨ spec_l02Sized.l0 (k + 2) w hh l (n : Int) s i h = spec_l02Sized.l0 (k + 1) w hh (l ++ [x]) ((n + 1 : Nat) : Int) s i2 h2 := by
   by_cases c0 : v = 0
   ·refine ⟨35, i1, h1, .inr (.inl rfl), c1, fun k => .inr ?_⟩
    rw [spec_l02Sized.l0, hwm, if_pos (by omega), e1, Option.bind_some]
    simp only
    rw [if_pos c0, if_pos hll, show wrap64 ((n : Int) + 1) = ((n + 1 : Nat) : Int) from w64 (by omega) (by omega)]
   ·by_cases c2 : v = 1
    ·obtain ⟨x, i2, h2, q1, q2, q3⟩ := sized_j1 s hs w hh l n (by omega) hl v (v == 1) i1 h1 c1
     refine ⟨x, i2, h2, q1, q2, fun k => .inl ?_⟩
     rw [spec_l02Sized.l0, hwm, if_pos (by omega), e1, Option.bind_some]
     simp only
     rw [if_neg c0, if_pos c2]
     exact q3 k
    ·obtain ⟨x, i2, h2, q1, q2, q3⟩ := sized_j1 s hs w hh l n (by omega) hl v (v == 2) i1 h1 c1
     refine ⟨x, i2, h2, q1, q2, fun k => .inl ?_⟩
     rw [spec_l02Sized.l0, hwm, if_pos (by omega), e1, Option.bind_some]
     simp only
     rw [if_neg c0, if_neg c2]
     exact q3 k
  obtain ⟨x, i2, h2, q1, q2, q3⟩ := hnext
  obtain ⟨g, i', h', K, r1, r2, r3, r4⟩ := sized_l0 w hh m hm hwm d (n + 1) (l ++ [x]) i2 h2 (by omega) (by simp [hl]) (fun y hy => by
   rcases List.mem_append.mp hy with e | e
   ·exact hk y e
   ·rw [List.mem_singleton.mp e]; exact q1) q2
  refine ⟨g, i', h', K + 2, fun k hk => ?_, r2, r3, r4⟩
  obtain ⟨k, rfl⟩ : ∃ m, k = m + 2 := ⟨k - 2, by omega⟩
  rcases q3 k with e | e
  ·rw [e]; exact r1 k (by omega)
  ·rw [e]; exact r1 (k + 1) (by omega)
theorem mapRight_ev (i h : Int) (hi : 0 ≤ i) : ∃ a b g i' h' K, (∀ k, K ≤ k → spec_l02Right.f k s i h = some (a, b, g, i', h')) ∧ Gok a b g ∧ 0 ≤ i' := by
 obtain ⟨u, i1, h1, e1, a1, b1, c1⟩ := below_ev s hs i h 3 hi (by omega) (by omega)
 obtain ⟨v, i2, h2, e2, a2, b2, c2⟩ := below_ev s hs i1 h1 3 c1 (by omega) (by omega)
 have w1 : wrap64 (2 + u) = 2 + u := w64 (by omega) (by omega)
 have w2 : wrap64 (2 + v) = 2 + v := w64 (by omega) (by omega)
 have hb : 0 ≤ (2 + u) * (2 + v) ∧ (2 + u) * (2 + v) ≤ 64 := by
  have x1 : 0 ≤ (2 + u) * (2 + v) := Int.mul_nonneg (by omega) (by omega)
  have x2 : (2 + u) * (2 + v) ≤ 4 * 4 := Int.mul_le_mul (by omega) (by omega) (by omega) (by omega)
  omega
 obtain ⟨m, hm⟩ := Int.eq_ofNat_of_zero_le hb.1
 obtain ⟨g, i', h', K, r1, r2, r3, r4⟩ := sized_l0 s hs (2 + u) (2 + v) m (by omega) (by rw [hm]; exact w64 (by omega) (by omega)) m 0 [] i2 h2 (by omega) rfl (fun x hx => by cases hx) c2
 refine ⟨2 + u, 2 + v, strOfNums g, i', h', K, fun k hk => ?_, ⟨by omega, by omega, by omega, by omega, by rw [strOfNums_size, r2, hm], fun j hj => ?_⟩, r4⟩
 ·unfold spec_l02Right.f spec_l02Sized.f
  rw [e1, Option.bind_some]
  simp only
  rw [e2, Option.bind_some]
  simp only
  have := r1 k hk
  rw [show ((0 : Nat) : Int) = 0 from rfl] at this
  rw [w1, w2, this, Option.bind_some]
 ·rw [strOfNums_size] at hj
  rw [strOfNums_bt g (fun x hx => Kind_byte (r3 x hx)) j hj, rd_get g j hj]
  exact r3 _ (List.getElem_mem hj)
omit hs in
theorem some_l1 (fr pk : List Int) (hf : fr.length ≤ 64) (hp : pk.length ≤ 64) (i h : Int) : ∀ (d j : Nat) (acc : List Int), j + d = fr.length → acc.length ≤ j → ∃ v K, (∀ k, K ≤ k → spec_l04Some.l1 k fr pk acc (j : Int) s i h = some (v, i, h)) ∧ v.length ≤ 64
 | 0, j, acc, hj, ha => by
  refine ⟨acc, 1, fun k hk => ?_, by omega⟩
  obtain ⟨k, rfl⟩ : ∃ m, k = m + 1 := ⟨k - 1, by omega⟩
  rw [spec_l04Some.l1, if_neg (by omega)]
 | d + 1, j, acc, hj, ha => by
  have e9 : wrap64 ((j : Int) + 1) = ((j + 1 : Nat) : Int) := w64 (by omega) (by omega)
  have hal : acc.length < 17592186044416 := by omega
  have hhas := fun k hk => has_eq pk (rd fr (j : Int)) (by omega) k hk
  by_cases c : rd fr (j : Int) ∈ pk
  ·obtain ⟨v, K, r1, r2⟩ := some_l1 fr pk hf hp i h d (j + 1) (acc ++ [rd fr (j : Int)]) (by omega) (by simp; omega)
   refine ⟨v, K + pk.length + 2, fun k hk => ?_, r2⟩
   obtain ⟨k, rfl⟩ : ∃ m, k = m + 1 := ⟨k - 1, by omega⟩
   rw [spec_l04Some.l1, if_pos (by omega), if_pos (by omega), hhas k (by omega), Option.bind_some, decide_eq_true c, if_pos rfl, if_pos hal, e9]
   exact r1 k (by omega)
  ·obtain ⟨v, K, r1, r2⟩ := some_l1 fr pk hf hp i h d (j + 1) acc (by omega) (by omega)
   refine ⟨v, K + pk.length + 2, fun k hk => ?_, r2⟩
   obtain ⟨k, rfl⟩ : ∃ m, k = m + 1 := ⟨k - 1, by omega⟩
   rw [spec_l04Some.l1, if_pos (by omega), if_pos (by omega), hhas k (by omega), Option.bind_some, decide_eq_false c, if_neg (by decide), e9]
   exact r1 k (by omega)
theorem some_l0 (n : Int) (hn : 0 ≤ n ∧ n ≤ 6) (fr : List Int) (hf : fr.length ≤ 64) : ∀ (d m : Nat) (pk : List Int) (i h : Int), (m : Int) + d = n → pk.length = m → 0 ≤ i → ∃ v i' h' K, (∀ k, K ≤ k → spec_l04Some.l0 k n fr pk (m : Int) s i h = some (v, i', h')) ∧ v.length ≤ 64 ∧ 0 ≤ i'
 | d, m, pk, i, h, hm, hp, hi => by
  obtain ⟨v, K, r1, r2⟩ := some_l1 s fr pk hf (by omega) i h fr.length 0 [] (by omega) (by simp)
  rw [show ((0 : Nat) : Int) = 0 from rfl] at r1
  have hj1 : ∀ k, K + 1 ≤ k → spec_l04Some.j1 k fr pk s i h = some (v, i, h) := fun k hk => by
   obtain ⟨k, rfl⟩ : ∃ m, k = m + 1 := ⟨k - 1, by omega⟩
   rw [spec_l04Some.j1]
   exact r1 k (by omega)
  match d with
  | 0 =>
   refine ⟨v, i, h, K + 2, fun k hk => ?_, r2, hi⟩
   obtain ⟨k, rfl⟩ : ∃ m, k = m + 1 := ⟨k - 1, by omega⟩
   rw [spec_l04Some.l0, if_neg (by omega)]
   exact hj1 k (by omega)
  | d + 1 =>
   by_cases c : (fr.length : Int) > 0
   ·obtain ⟨u, i1, h1, e1, a1, b1, c1⟩ := below_ev s hs i h (fr.length : Int) hi (by omega) (by omega)
    obtain ⟨v2, i', h', K2, q1, q2, q3⟩ := some_l0 n hn fr hf d (m + 1) (pk ++ [rd fr u]) i1 h1 (by omega) (by simp [hp]) c1
    refine ⟨v2, i', h', K2 + 1, fun k hk => ?_, q2, q3⟩
    obtain ⟨k, rfl⟩ : ∃ m, k = m + 1 := ⟨k - 1, by omega⟩
    rw [spec_l04Some.l0, if_pos (by omega), if_pos c, e1, Option.bind_some]
    simp only
    rw [if_pos a1, if_pos b1, if_pos (by omega), show wrap64 ((m : Int) + 1) = ((m + 1 : Nat) : Int) from w64 (by omega) (by omega)]
    exact q1 k (by omega)
   ·refine ⟨v, i, h, K + 2, fun k hk => ?_, r2, hi⟩
    obtain ⟨k, rfl⟩ : ∃ m, k = m + 1 := ⟨k - 1, by omega⟩
    rw [spec_l04Some.l0, if_pos (by omega), if_neg c]
    exact hj1 k (by omega)
theorem drawSome_ev : ∃ a b g held K, (∀ k, K ≤ k → spec_DrawSome.f k s = some (a, b, g, held)) ∧ Gok a b g ∧ held.length ≤ 64 := by
 obtain ⟨h, K0, h0⟩ := new_ev s hs
 obtain ⟨a, b, g, i1, h1, K1, r1, r2, r3⟩ := mapRight_ev s hs 0 h (by omega)
 obtain ⟨n, i2, h2, e2, a2, b2, c2⟩ := below_ev s hs i1 h1 6 r3 (by omega) (by omega)
 have hsz := Gok_size r2
 obtain ⟨K3, h3⟩ := specFree_ev a b g (by omega)
 obtain ⟨m, rfl⟩ := Int.eq_ofNat_of_zero_le a2
 obtain ⟨held, i4, h4, K4, q1, q2, q3⟩ := some_l0 s hs (m : Int) ⟨by omega, by omega⟩ (frees a b g) (frees_len a b g) m 0 [] i2 h2 (by omega) rfl c2
 rw [show ((0 : Nat) : Int) = 0 from rfl] at q1
 refine ⟨a, b, g, held, K0 + K1 + K3 + K4, fun k hk => ?_, r2, q2⟩
 unfold spec_DrawSome.f
 rw [h0 k (by omega), Option.bind_some]
 simp only
 rw [r1 k (by omega), Option.bind_some]
 simp only
 rw [e2, Option.bind_some]
 simp only
 unfold spec_l04Some.f
 rw [h3 k (by omega), Option.bind_some, q1 k (by omega), Option.bind_some]
end
end Go.Proofs.Ytannkhefallkhaa.Pure
/- Twelve numbers are drawn, none below 0. -/
namespace Go.Proofs.Ytannkhefallkhaa.Pure
open Go.RowKit Go.Proofs.Ytannkhefallkhaa.Q Go.Proofs.YtannkhefallkhaaW.PrintWords Go.Proofs.YtannkhefallkhaaW.PrintLast
theorem places_l0 (s : List Int) (hs : s.length ≤ 1048576) : ∀ (d n : Nat) (i h : Int) (p : List Int), n + d = 12 → 0 ≤ i → p.length = n → (∀ x ∈ p, 0 ≤ x) → ∃ p' K, (∀ k, K ≤ k → spec_DrawPlaces.l0 k p (n : Int) s i h = some p') ∧ p'.length = 12 ∧ ∀ x ∈ p', 0 ≤ x
 | 0, n, i, h, p, hn, hi, hp, hx => by
  refine ⟨p, 1, fun k hk => ?_, by omega, hx⟩
  obtain ⟨k, rfl⟩ : ∃ m, k = m + 1 := ⟨k - 1, by omega⟩
  simp only [spec_DrawPlaces.l0]
  rw [if_neg (by omega)]
 | d + 1, n, i, h, p, hn, hi, hp, hx => by
  obtain ⟨v, i1, h1, e1, a1, b1, c1⟩ := below4_ev s hs i h 10000 hi (by omega)
  obtain ⟨p', K, hh, q1, q2⟩ := places_l0 s hs d (n + 1) i1 h1 (p ++ [v]) (by omega) c1 (by simp; omega) (fun x hm => by
   rcases List.mem_append.mp hm with e | e
   ·exact hx x e
   ·have : x = v := by simpa using e
    omega)
  refine ⟨p', K + 1, fun k hk => ?_, q1, q2⟩
  obtain ⟨k, rfl⟩ : ∃ m, k = m + 1 := ⟨k - 1, by omega⟩
  simp only [spec_DrawPlaces.l0]
  rw [if_pos (by omega), e1]
  simp only [Option.bind_some]
  rw [if_pos (by omega), w64 (x := (n : Int) + 1) (by omega) (by omega), show ((n : Int) + 1) = ((n + 1 : Nat) : Int) by omega]
  exact hh k (by omega)
theorem places_ev (s : List Int) (hs : s.length ≤ 1048576) : ∃ p K, (∀ k, K ≤ k → spec_DrawPlaces.f k s = some p) ∧ p.length = 12 ∧ ∀ x ∈ p, 0 ≤ x := by
 obtain ⟨h, K0, h0⟩ := new_ev s hs
 obtain ⟨v1, i1, h1, e1, a1, b1, c1⟩ := byte_ev s hs 0 h (by omega)
 obtain ⟨p, K, hh, q1, q2⟩ := places_l0 s hs 12 0 i1 h1 [] (by omega) c1 rfl (fun x hx => by cases hx)
 refine ⟨p, K0 + K, fun k hk => ?_, q1, q2⟩
 unfold spec_DrawPlaces.f
 rw [h0 k (by omega)]
 simp only [Option.bind_some]
 rw [e1]
 simp only [Option.bind_some]
 exact hh k (by omega)
end Go.Proofs.Ytannkhefallkhaa.Pure
