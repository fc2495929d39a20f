/- The plain facts of this claim, in their order. -/
import Derived.Test.YtmdkfmbgddhjcaaQ0
import Derived.Test.YtmdkfmbgddhjcaaQ14
import Derived.Test.YtmdkfmbgddhjcaaQ8
import Derived.Test.YtmdkfmbgddhjcaaQ1
import Derived.Test.YtmdkfmbgddhjcaaQ9
import Derived.Test.YtmdkfmbgddhjcaaQ11
import Derived.Test.YtmdkfmbgddhjcaaQ3
import Derived.Test.YtmdkfmbgddhjcaaQ4
import Derived.Test.YtmdkfmbgddhjcaaQ12
import Derived.Test.YtmdkfmbgddhjcaaQ10
import Derived.Test.YtmdkfmbgddhjcaaQ2
import Derived.Test.YtmdkfmbgddhjcaaQ5
import Derived.Test.YtmdkfmbgddhjcaaQ13
import Derived.Test.YtmdkfmbgddhjcaaQ6
import Derived.Test.YtmdkfmbgddhjcaaQ7
set_option linter.unusedSimpArgs false
set_option linter.unusedSectionVars false
/- Plain facts that all the proofs share. -/
namespace Go.Proofs.Ytmdkfmbgddhjcaa.Pure
open Go.RowKit Go.Proofs.Ytmdkfmbgddhjcaa.Q Go.Proofs.YtmdkfmbgddhjcaaW.PrintWords Go.Proofs.YtmdkfmbgddhjcaaW.PrintLast

theorem w64 {x : Int} (h0 : -9223372036854775808 ≤ x) (h1 : x ≤ 9223372036854775807) : wrap64 x = x := by unfold wrap64; omega
theorem rd_nat (l : List Int) (i : Nat) : rd l (i : Int) = l.getD i 0 := by simp [rd]
theorem rd_get (l : List Int) (i : Nat) (h : i < l.length) : rd l (i : Int) = l[i] := by simp [rd, h]
theorem drop_cons {α : Type} (l : List α) (i : Nat) (h : i < l.length) : l.drop i = l[i] :: l.drop (i + 1) := List.drop_eq_getElem_cons h
def iota (m : Int) : Nat → List Int
 | 0 => []
 | d + 1 => m :: iota (m + 1) d
end Go.Proofs.Ytmdkfmbgddhjcaa.Pure
/- Labels by distance: two labellings of cells that start at the same cells and go on by steps of one are one and the same. -/
namespace Go.Proofs.Ytmdkfmbgddhjcaa.Pure
open Go.RowKit Go.Proofs.YtmdkfmbgddhjcaaW.PrintWords Go.Proofs.YtmdkfmbgddhjcaaW.PrintLast
theorem rd_app1 (l : List Int) (x : Int) (j : Nat) (h : j < l.length) : rd (l ++ [x]) (j : Int) = rd l (j : Int) := by
 rw [rd_get _ _ (by simp; omega), rd_get _ _ h, List.getElem_append_left h]
theorem rd_app2 (l : List Int) (x : Int) : rd (l ++ [x]) (l.length : Int) = x := by
 rw [rd_get _ _ (by simp)]; simp
theorem rd_put1 (l : List Int) (c v : Int) (h0 : 0 ≤ c) (h1 : c < (l.length : Int)) : rd (l.set c.toNat v) c = v := by
 obtain ⟨m, rfl⟩ := Int.eq_ofNat_of_zero_le h0
 rw [Int.toNat_natCast, rd_get _ _ (by simp; omega)]; simp
theorem rd_put2 (l : List Int) (c v y : Int) (h0 : 0 ≤ c) (h2 : 0 ≤ y) (hne : y ≠ c) : rd (l.set c.toNat v) y = rd l y := by
 obtain ⟨m, rfl⟩ := Int.eq_ofNat_of_zero_le h0
 obtain ⟨j, rfl⟩ := Int.eq_ofNat_of_zero_le h2
 rw [Int.toNat_natCast, rd_nat, rd_nat, List.getD_eq_getElem?_getD, List.getD_eq_getElem?_getD, List.getElem?_set_ne (by omega)]
theorem mem_rd (l : List Int) (x : Int) : x ∈ l ↔ ∃ j : Nat, j < l.length ∧ rd l (j : Int) = x := by
 constructor
 ·intro h
  obtain ⟨j, hj, rfl⟩ := List.getElem_of_mem h
  exact ⟨j, hj, rd_get l j hj⟩
 ·rintro ⟨j, hj, rfl⟩
  rw [rd_get l j hj]
  exact List.getElem_mem hj
theorem many_len : ∀ (e : Nat) (d : List Int), (∀ m : Nat, m < e → (m : Int) ∈ d) → e ≤ d.length
 | 0, _, _ => Nat.zero_le _
 | e + 1, d, h => by
  have h1 := many_len e (d.erase (e : Int)) (fun m hm => by
   rw [List.mem_erase_of_ne (by omega)]
   exact h m (by omega))
  have h2 := List.length_erase_of_mem (h e (by omega))
  have h3 : 0 < d.length := List.length_pos_of_mem (h e (by omega))
  omega
structure Part (A : Int → Int → Prop) (n : Nat) (src : List Int) (d : List Int) : Prop where
 len : d.length = n
 low : ∀ c : Int, 0 ≤ c → c < n → -1 ≤ rd d c
 zero : ∀ c : Int, 0 ≤ c → c < n → (rd d c = 0 ↔ c ∈ src)
 back : ∀ c : Int, 0 ≤ c → c < n → 0 < rd d c → ∃ b : Int, 0 ≤ b ∧ b < n ∧ rd d b = rd d c - 1 ∧ A b c
def Clo (A : Int → Int → Prop) (d : List Int) (c : Int) : Prop := ∀ x, A c x → 0 ≤ rd d x ∧ rd d x ≤ rd d c + 1
theorem Part.step {A n src d} (h : Part A n src d) {c x : Int} (hc0 : 0 ≤ c) (hc1 : c < n) (hx0 : 0 ≤ x) (hx1 : x < n) (hA : A c x) (hd : 0 ≤ rd d c) (hx : rd d x < 0) : Part A n src (d.set x.toNat (rd d c + 1)) := by
 have hl := h.len
 have e1 : rd (d.set x.toNat (rd d c + 1)) x = rd d c + 1 := rd_put1 d x _ hx0 (by omega)
 have e2 : ∀ y : Int, 0 ≤ y → y ≠ x → rd (d.set x.toNat (rd d c + 1)) y = rd d y := fun y hy hne => rd_put2 d x _ y hx0 hy hne
 refine ⟨by simp [hl], ?_, ?_, ?_⟩
 ·intro y h0 h1
  by_cases e : y = x
  ·subst e; rw [e1]; omega
  ·rw [e2 y h0 e]; exact h.low y h0 h1
 ·intro y h0 h1
  by_cases e : y = x
  ·subst e
   rw [e1, ← h.zero y h0 h1]
   omega
  ·rw [e2 y h0 e]; exact h.zero y h0 h1
 ·intro y h0 h1
  by_cases e : y = x
  ·subst e
   intro _
   refine ⟨c, hc0, hc1, ?_, hA⟩
   rw [e1, e2 c hc0 (by intro e; subst e; omega)]
   omega
  ·rw [e2 y h0 e]
   intro hp
   obtain ⟨b, b0, b1, b2, b3⟩ := h.back y h0 h1 hp
   exact ⟨b, b0, b1, by rw [e2 b b0 (by intro e; subst e; omega)]; exact b2, b3⟩
theorem Clo.step {A : Int → Int → Prop} {d : List Int} {c : Int} (h : Clo A d c) (n : Nat) (hA : ∀ c x, A c x → 0 ≤ x ∧ x < (n : Int)) {x : Int} (v : Int) (hx0 : 0 ≤ x) (hc0 : 0 ≤ c) (hd : 0 ≤ rd d c) (hx : rd d x < 0) : Clo A (d.set x.toNat v) c := by
 intro y hy
 obtain ⟨h1, h2⟩ := h y hy
 rw [rd_put2 d x v y hx0 (hA c y hy).1 (by intro e; subst e; omega), rd_put2 d x v c hx0 hc0 (by intro e; subst e; omega)]
 exact ⟨h1, h2⟩
theorem Part.all {A n src d} (h : Part A n src d) : ∀ (e : Nat) (c : Int), 0 ≤ c → c < n → rd d c = e → ∀ m : Nat, m ≤ e → (m : Int) ∈ d
 | 0, c, h0, h1, hc, m, hm => by
  obtain rfl : m = 0 := by omega
  obtain ⟨j, rfl⟩ := Int.eq_ofNat_of_zero_le h0
  have hl := h.len
  exact (mem_rd d _).mpr ⟨j, by omega, hc⟩
 | e + 1, c, h0, h1, hc, m, hm => by
  by_cases he : m = e + 1
  ·subst he
   obtain ⟨j, rfl⟩ := Int.eq_ofNat_of_zero_le h0
   have hl := h.len
   exact (mem_rd d _).mpr ⟨j, by omega, hc⟩
  ·obtain ⟨b, b0, b1, b2, _⟩ := h.back c h0 h1 (by omega)
   exact Part.all h e b b0 b1 (by omega) m (by omega)
theorem Part.lt {A n src d} (h : Part A n src d) (c : Int) (h0 : 0 ≤ c) (h1 : c < n) : rd d c < n := by
 have hlow := h.low c h0 h1
 have hl := h.len
 by_cases hn : rd d c < 0
 ·omega
 ·obtain ⟨e, he⟩ := Int.eq_ofNat_of_zero_le (by omega : 0 ≤ rd d c)
  have := many_len (e + 1) d (fun m hm => h.all e c h0 h1 he m (by omega))
  omega
def Lab (A : Int → Int → Prop) (n : Nat) (src : List Int) (d : List Int) : Prop := Part A n src d ∧ ∀ c : Int, 0 ≤ c → c < n → 0 ≤ rd d c → Clo A d c
theorem Lab.le {A : Int → Int → Prop} {n : Nat} {src d d' : List Int} (hA : ∀ c x, A c x → 0 ≤ x ∧ x < (n : Int)) (h : Part A n src d) (h' : Lab A n src d') : ∀ (e : Nat) (c : Int), 0 ≤ c → c < n → rd d c = e → 0 ≤ rd d' c ∧ rd d' c ≤ e
 | 0, c, h0, h1, hc => by
  have := (h'.1.zero c h0 h1).mpr ((h.zero c h0 h1).mp hc)
  omega
 | e + 1, c, h0, h1, hc => by
  obtain ⟨b, b0, b1, b2, b3⟩ := h.back c h0 h1 (by omega)
  obtain ⟨i1, i2⟩ := Lab.le hA h h' e b b0 b1 (by omega)
  obtain ⟨j1, j2⟩ := h'.2 b b0 b1 i1 c b3
  exact ⟨j1, by omega⟩
theorem Lab.uniq {A : Int → Int → Prop} {n : Nat} {src d d' : List Int} (hA : ∀ c x, A c x → 0 ≤ x ∧ x < (n : Int)) (h : Lab A n src d) (h' : Lab A n src d') : d = d' := by
 have hl := h.1.len
 have hl' := h'.1.len
 apply List.ext_getElem (by omega)
 intro j h1 h2
 rw [← rd_get d j h1, ← rd_get d' j h2]
 have a1 := h.1.low (j : Int) (by omega) (by omega)
 have a2 := h'.1.low (j : Int) (by omega) (by omega)
 by_cases c1 : 0 ≤ rd d (j : Int)
 ·obtain ⟨e, he⟩ := Int.eq_ofNat_of_zero_le c1
  obtain ⟨i1, i2⟩ := Lab.le hA h.1 h' e j (by omega) (by omega) he
  obtain ⟨e', he'⟩ := Int.eq_ofNat_of_zero_le i1
  obtain ⟨_, i4⟩ := Lab.le hA h'.1 h e' j (by omega) (by omega) he'
  omega
 ·by_cases c2 : 0 ≤ rd d' (j : Int)
  ·obtain ⟨e', he'⟩ := Int.eq_ofNat_of_zero_le c2
   obtain ⟨i3, i4⟩ := Lab.le hA h'.1 h e' j (by omega) (by omega) he'
   omega
  ·omega
def negs (d : List Int) : Nat := d.countP (fun v => decide (v < 0))
theorem negs_put (d : List Int) (x v : Int) (h0 : 0 ≤ x) (h1 : x < (d.length : Int)) (hx : rd d x < 0) (hv : 0 ≤ v) : negs (d.set x.toNat v) + 1 = negs d := by
 obtain ⟨m, rfl⟩ := Int.eq_ofNat_of_zero_le h0
 have hm : m < d.length := by omega
 rw [rd_get d m hm] at hx
 unfold negs
 rw [Int.toNat_natCast, List.countP_set hm, decide_eq_true hx, decide_eq_false (by omega)]
 have : 0 < d.countP (fun v => decide (v < 0)) := List.countP_pos_iff.mpr ⟨d[m], List.getElem_mem hm, by simpa using hx⟩
 simp
 omega
end Go.Proofs.Ytmdkfmbgddhjcaa.Pure
/- Plain facts about the law's helpers over whole numbers: what comparing answers. -/
namespace Go.Proofs.Ytmdkfmbgddhjcaa.Pure
open Go.RowKit Go.Proofs.Ytmdkfmbgddhjcaa.Q Go.Proofs.YtmdkfmbgddhjcaaW.PrintWords Go.Proofs.YtmdkfmbgddhjcaaW.PrintLast

theorem eqIntS_l0 (a b : List Int) (hl : a.length = b.length) (hn : a.length ≤ 9223372036854775807) : ∀ (d i k : Nat), i + d = a.length → d < k →
  laws_eqIntS.l0 k a b (i : Int) = some (decide (a.drop i = b.drop i))
 | 0, i, k, hi, hk => by
  obtain ⟨k, rfl⟩ : ∃ m, k = m + 1 := ⟨k - 1, by omega⟩
  simp only [laws_eqIntS.l0]
  rw [if_neg (by omega), List.drop_of_length_le (by omega), List.drop_of_length_le (by omega)]
  rfl
 | d + 1, i, k, hi, hk => by
  obtain ⟨k, rfl⟩ : ∃ m, k = m + 1 := ⟨k - 1, by omega⟩
  simp only [laws_eqIntS.l0]
  rw [if_pos (by omega), if_pos (by omega), if_pos (by omega), rd_get a i (by omega), rd_get b i (by omega), drop_cons a i (by omega), drop_cons b i (by omega), w64 (by omega) (by omega)]
  by_cases h : a[i]'(by omega) = b[i]'(by omega)
  ·rw [if_pos h, show ((i : Int) + 1) = ((i + 1 : Nat) : Int) by omega, eqIntS_l0 a b hl hn d (i + 1) k (by omega) (by omega)]
   simp only [h, List.cons.injEq, true_and]
  ·rw [if_neg h]
   simp only [List.cons.injEq, h, false_and, decide_false]
theorem eqIntS_ev (a b : List Int) (hn : a.length ≤ 9223372036854775807) : ∃ K, ∀ k, K ≤ k → laws_eqIntS.f k a b = some (decide (a = b)) := by
 refine ⟨a.length + 1, fun k hk => ?_⟩
 show laws_eqIntS.f k a b = some (decide (a = b))
 unfold laws_eqIntS.f
 by_cases h : a.length = b.length
 ·rw [if_pos (by omega)]
  have := eqIntS_l0 a b h hn a.length 0 k (by omega) (by omega)
  simpa using this
 ·rw [if_neg (by omega), decide_eq_false (fun e => h (by rw [e]))]
end Go.Proofs.Ytmdkfmbgddhjcaa.Pure
/- Plain facts about the law's helpers over whole numbers: what copying answers. -/
namespace Go.Proofs.Ytmdkfmbgddhjcaa.Pure
open Go.RowKit Go.Proofs.Ytmdkfmbgddhjcaa.Q Go.Proofs.YtmdkfmbgddhjcaaW.PrintWords Go.Proofs.YtmdkfmbgddhjcaaW.PrintLast

theorem toIntS_l0 (l : List Int) (hn : l.length ≤ 9223372036854775807) : ∀ (d i k : Nat) (out : List Int), out.length = l.length → i + d = l.length → (∀ j, j < i → out[j]? = l[j]?) → d < k →
  laws_toIntS.l0 k l out (i : Int) = some l
 | 0, i, k, out, ho, hi, hj, hk => by
  obtain ⟨k, rfl⟩ : ∃ m, k = m + 1 := ⟨k - 1, by omega⟩
  simp only [laws_toIntS.l0]
  rw [if_neg (by omega)]
  congr 1
  apply List.ext_getElem?
  intro j
  rcases Nat.lt_or_ge j l.length with h | h
  ·exact hj j (by omega)
  ·rw [List.getElem?_eq_none (by omega), List.getElem?_eq_none h]
 | d + 1, i, k, out, ho, hi, hj, hk => by
  obtain ⟨k, rfl⟩ : ∃ m, k = m + 1 := ⟨k - 1, by omega⟩
  simp only [laws_toIntS.l0]
  rw [if_pos (by omega), if_pos (by omega), if_pos (by omega), w64 (by omega) (by omega), show ((i : Int) + 1) = ((i + 1 : Nat) : Int) by omega]
  refine toIntS_l0 l hn d (i + 1) k _ (by simpa using ho) (by omega) (fun j hji => ?_) (by omega)
  rw [Int.toNat_natCast, rd_get l i (by omega), List.getElem?_set]
  by_cases e : i = j
  ·subst e
   rw [if_pos rfl, if_pos (by omega), List.getElem?_eq_getElem (by omega)]
  ·rw [if_neg e]
   exact hj j (by omega)
theorem toIntS_ev (l : List Int) (hn : l.length ≤ 35184372088832) : ∃ K, ∀ k, K ≤ k → laws_toIntS.f k l = some l := by
 refine ⟨l.length + 1, fun k hk => ?_⟩
 show laws_toIntS.f k l = some l
 unfold laws_toIntS.f
 rw [if_pos (by omega), if_pos (by omega)]
 exact toIntS_l0 l (by omega) l.length 0 k _ (by simp) (by omega) (fun j hj => absurd hj (Nat.not_lt_zero _)) (by omega)
end Go.Proofs.Ytmdkfmbgddhjcaa.Pure
/- A number between two others. -/
namespace Go.Proofs.Ytmdkfmbgddhjcaa.Pure
open Go.RowKit Go.Proofs.Ytmdkfmbgddhjcaa.Q Go.Proofs.YtmdkfmbgddhjcaaW.PrintWords Go.Proofs.YtmdkfmbgddhjcaaW.PrintLast
theorem l01In_eq (a b c : Int) : spec_l01In.f a b c = some (decide (b ≤ a ∧ a ≤ c)) := by
 unfold spec_l01In.f
 by_cases h : a ≥ b
 ·rw [if_pos h]; congr 1; exact decide_eq_decide.mpr ⟨fun h2 => ⟨h, h2⟩, fun h2 => h2.2⟩
 ·rw [if_neg h, decide_eq_false (fun h2 => h h2.1)]
end Go.Proofs.Ytmdkfmbgddhjcaa.Pure
/- Grids and their free cells: what the program and the reference answer. -/
namespace Go.Proofs.Ytmdkfmbgddhjcaa.Pure
open Go.RowKit Go.Proofs.Ytmdkfmbgddhjcaa.Q Go.Proofs.YtmdkfmbgddhjcaaW.PrintWords Go.Proofs.YtmdkfmbgddhjcaaW.PrintLast
def Kind (c : Int) : Prop := c = 46 ∨ c = 35 ∨ (97 ≤ c ∧ c ≤ 102) ∨ (65 ≤ c ∧ c ≤ 70)
theorem kind_eq (c : Int) : ∃ b, spec_l02Kind.f c = some b ∧ (b = true ↔ Kind c) := by
 unfold spec_l02Kind.f Kind
 by_cases h1 : c = 46
 ·exact ⟨true, by rw [if_pos h1], by simp [h1]⟩
 ·by_cases h2 : c = 35
  ·exact ⟨true, by rw [if_neg h1, if_pos h2], by simp [h2]⟩
  ·by_cases h3 : c ≥ 97
   ·by_cases h4 : c ≤ 102
    ·exact ⟨true, by rw [if_neg h1, if_neg h2, if_pos h3, if_pos h4], ⟨fun _ => by omega, fun _ => rfl⟩⟩
    ·refine ⟨decide (c ≤ 70), by rw [if_neg h1, if_neg h2, if_pos h3, if_neg h4, if_pos (by omega)], ⟨fun h => (by have := of_decide_eq_true h; omega), fun h => decide_eq_true (by omega)⟩⟩
   ·by_cases h5 : c ≥ 65
    ·exact ⟨decide (c ≤ 70), by rw [if_neg h1, if_neg h2, if_neg h3, if_pos h5], ⟨fun h => (by have := of_decide_eq_true h; omega), fun h => decide_eq_true (by omega)⟩⟩
    ·exact ⟨false, by rw [if_neg h1, if_neg h2, if_neg h3, if_neg h5], ⟨fun h => (by cases h), fun h => (by omega)⟩⟩
def Gok (a b : Int) (s : ByteArray) : Prop := 1 ≤ a ∧ a ≤ 8 ∧ 1 ≤ b ∧ b ≤ 8 ∧ (s.size : Int) = a * b ∧ ∀ i : Nat, i < s.size → Kind (bt s (i : Int))
theorem Gok_size {a b : Int} {s : ByteArray} (h : Gok a b s) : s.size ≤ 64 := by
 obtain ⟨h1, h2, h3, h4, h5, _⟩ := h
 have : a * b ≤ 8 * 8 := Int.mul_le_mul h2 h4 (by omega) (by omega)
 omega
theorem implKind_eq (c : Int) (b : Bool) (hb : b = true ↔ Kind c) (X : Option Bool) : (if c = 46 then X else (if c = 35 then X else (if c < 97 then (if c < 65 then (some false) else (if c > 70 then (some false) else X)) else (if c > 102 then (if c < 65 then (some false) else (if c > 70 then (some false) else X)) else X)))) = (if b = true then X else some false) := by
 unfold Kind at hb
 cases b with
 | true =>
  have h := hb.mp rfl
  rw [if_pos rfl]
  repeat' split
  all_goals first | rfl | (exfalso; omega)
 | false =>
  have h : ¬ (c = 46 ∨ c = 35 ∨ (97 ≤ c ∧ c ≤ 102) ∨ (65 ≤ c ∧ c ≤ 70)) := fun h => absurd (hb.mpr h) Bool.false_ne_true
  rw [if_neg Bool.false_ne_true]
  repeat' split
  all_goals first | rfl | (exfalso; omega)
theorem gridOk_l0 (a b : Int) (s : ByteArray) (hs : s.size ≤ 1048576) : ∀ (d i : Nat), i + d = s.size → ∃ g K, (∀ k, K ≤ k → spec_GridOk.l0 k (i : Int) a b s = some g ∧ impl_GridOk.l0 k (i : Int) a b s = some g) ∧ (g = true ↔ ∀ j : Nat, i ≤ j → j < s.size → Kind (bt s (j : Int)))
 | 0, i, hi => by
  refine ⟨true, 1, fun k hk => ?_, ⟨fun _ j h1 h2 => by omega, fun _ => rfl⟩⟩
  obtain ⟨k, rfl⟩ : ∃ m, k = m + 1 := ⟨k - 1, by omega⟩
  have e1 : ¬ (i : Int) < (s.size : Int) := by omega
  simp only [spec_GridOk.l0, impl_GridOk.l0, e1, reduceIte, and_self]
 | d + 1, i, hi => by
  obtain ⟨g, K, h, hg⟩ := gridOk_l0 a b s hs d (i + 1) (by omega)
  have e1 : (i : Int) < (s.size : Int) := by omega
  have e2 : (0 : Int) ≤ i := by omega
  have e9 : wrap64 ((i : Int) + 1) = ((i + 1 : Nat) : Int) := by rw [w64 (by omega) (by omega)]; rfl
  obtain ⟨q, hq, hqk⟩ := kind_eq (bt s (i : Int))
  have hstep : (∀ j : Nat, i ≤ j → j < s.size → Kind (bt s (j : Int))) ↔ Kind (bt s (i : Int)) ∧ ∀ j : Nat, i + 1 ≤ j → j < s.size → Kind (bt s (j : Int)) := by
   constructor
   ·exact fun h => ⟨h i (Nat.le_refl _) (by omega), fun j h1 h2 => h j (by omega) h2⟩
   ·rintro ⟨h0, h⟩ j h1 h2
    rcases Nat.eq_or_lt_of_le h1 with e | e
    ·subst e; exact h0
    ·exact h j e h2
  rw [hstep]
  cases q with
  | true =>
   refine ⟨g, K + 1, fun k hk => ?_, by rw [hg]; exact ⟨fun h => ⟨hqk.mp rfl, h⟩, fun h => h.2⟩⟩
   obtain ⟨k, rfl⟩ : ∃ m, k = m + 1 := ⟨k - 1, by omega⟩
   obtain ⟨q1, q2⟩ := h k (by omega)
   simp only [spec_GridOk.l0, impl_GridOk.l0]
   rw [if_pos e1, if_pos e2, if_pos e1, if_pos e2, hq, e9, implKind_eq _ true hqk]
   simp only [Option.bind_some, reduceIte]
   exact ⟨q1, q2⟩
  | false =>
   refine ⟨false, 1, fun k hk => ?_, ⟨fun h => (by cases h), fun h => absurd (hqk.mpr h.1) (by decide)⟩⟩
   obtain ⟨k, rfl⟩ : ∃ m, k = m + 1 := ⟨k - 1, by omega⟩
   simp only [spec_GridOk.l0, impl_GridOk.l0]
   rw [if_pos e1, if_pos e2, if_pos e1, if_pos e2, hq, e9, implKind_eq _ false hqk]
   simp only [Option.bind_some, Bool.false_eq_true, reduceIte, and_self]
theorem gridOk_ev (a b : Int) (s : ByteArray) (hs : s.size ≤ 1048576) : ∃ g K, (∀ k, K ≤ k → spec_GridOk.f k a b s = some g ∧ impl_GridOk.f k a b s = some g) ∧ (g = true ↔ Gok a b s) := by
 obtain ⟨g, K, h, hg⟩ := gridOk_l0 a b s hs s.size 0 (by omega)
 by_cases ha : 1 ≤ a ∧ a ≤ 8
 ·by_cases hb : 1 ≤ b ∧ b ≤ 8
  ·have hm : wrap64 (a * b) = a * b := by
    have h1 : a * b ≤ 8 * 8 := Int.mul_le_mul ha.2 hb.2 (by omega) (by omega)
    have h2 : 0 ≤ a * b := Int.mul_nonneg (by omega) (by omega)
    exact w64 (by omega) (by omega)
   have a1 : ¬ a < 1 := by omega
   have a2 : ¬ a > 8 := by omega
   have b1 : ¬ b < 1 := by omega
   have b2 : ¬ b > 8 := by omega
   by_cases hsz : (s.size : Int) = a * b
   ·have e : ((s.size : Int) != wrap64 (a * b)) = false := by rw [hm]; simp [hsz]
    refine ⟨g, K + 1, fun k hk => ?_, ?_⟩
    ·obtain ⟨k, rfl⟩ : ∃ m, k = m + 1 := ⟨k - 1, by omega⟩
     unfold spec_GridOk.f impl_GridOk.f
     simp only [l01In_eq, ha, hb, a1, a2, b1, b2, e, and_self, decide_true, Option.bind_some, reduceIte]
     simp only [spec_GridOk.j0, impl_GridOk.j0, Bool.false_eq_true, reduceIte]
     exact h k (by omega)
    ·rw [hg]
     exact ⟨fun h => ⟨ha.1, ha.2, hb.1, hb.2, hsz, fun i hi => h i (Nat.zero_le _) hi⟩, fun h j _ hj => h.2.2.2.2.2 j hj⟩
   ·have e : ((s.size : Int) != wrap64 (a * b)) = true := by rw [hm]; simp [hsz]
    refine ⟨false, 1, fun k hk => ?_, ⟨fun h => (by cases h), fun h => absurd h.2.2.2.2.1 hsz⟩⟩
    obtain ⟨k, rfl⟩ : ∃ m, k = m + 1 := ⟨k - 1, by omega⟩
    unfold spec_GridOk.f impl_GridOk.f
    simp only [l01In_eq, ha, hb, a1, a2, b1, b2, e, and_self, decide_true, Option.bind_some, reduceIte]
    simp only [spec_GridOk.j0, impl_GridOk.j0, reduceIte, and_self]
  ·refine ⟨false, 1, fun k hk => ?_, ⟨fun h => (by cases h), fun h => absurd ⟨h.2.2.1, h.2.2.2.1⟩ hb⟩⟩
   obtain ⟨k, rfl⟩ : ∃ m, k = m + 1 := ⟨k - 1, by omega⟩
   have a1 : ¬ a < 1 := by omega
   have a2 : ¬ a > 8 := by omega
   unfold spec_GridOk.f impl_GridOk.f
   simp only [l01In_eq, ha, hb, a1, a2, and_self, decide_true, decide_false, Option.bind_some, Bool.false_eq_true, reduceIte]
   by_cases b1 : b < 1
   ·simp only [b1, spec_GridOk.j0, impl_GridOk.j0, reduceIte, and_self]
   ·have b2 : b > 8 := by omega
    simp only [b1, b2, spec_GridOk.j0, impl_GridOk.j0, reduceIte, and_self]
 ·refine ⟨false, 1, fun k hk => ?_, ⟨fun h => (by cases h), fun h => absurd ⟨h.1, h.2.1⟩ ha⟩⟩
  obtain ⟨k, rfl⟩ : ∃ m, k = m + 1 := ⟨k - 1, by omega⟩
  unfold spec_GridOk.f impl_GridOk.f
  simp only [l01In_eq, ha, decide_false, Option.bind_some, Bool.false_eq_true, reduceIte]
  by_cases a1 : a < 1
  ·simp only [a1, spec_GridOk.j0, impl_GridOk.j0, reduceIte, and_self]
  ·have a2 : a > 8 := by omega
   simp only [a1, a2, spec_GridOk.j0, impl_GridOk.j0, reduceIte, and_self]
def Fr (s : ByteArray) (c : Int) : Prop := 0 ≤ c ∧ c < (s.size : Int) ∧ bt s c ≠ 35
instance (s : ByteArray) (c : Int) : Decidable (Fr s c) := by unfold Fr; exact inferInstance
theorem fr_nest (s : ByteArray) (c : Int) : (if c ≥ 0 then (if c < (s.size : Int) then (if 0 ≤ c then (some ((bt s c) != 35)) else (none)) else (some false)) else (some false)) = some (decide (Fr s c)) := by
 by_cases h1 : c ≥ 0
 ·by_cases h2 : c < (s.size : Int)
  ·rw [if_pos h1, if_pos h2, if_pos h1]
   by_cases h3 : bt s c = 35
   ·rw [decide_eq_false (fun h : Fr s c => h.2.2 h3), h3]; rfl
   ·rw [decide_eq_true (show Fr s c from ⟨h1, h2, h3⟩)]
    congr 1
    simpa using h3
  ·rw [if_pos h1, if_neg h2, decide_eq_false (fun h : Fr s c => h2 h.2.1)]
 ·rw [if_neg h1, decide_eq_false (fun h : Fr s c => h1 h.1)]
theorem isFree_eq (a b : Int) (s : ByteArray) (c : Int) : impl_isFree.f a b s c = some (decide (Fr s c)) := fr_nest s c
theorem specFreeAt_ev (a b : Int) (s : ByteArray) (hs : s.size ≤ 1048576) (c : Int) : ∃ g K, (∀ k, K ≤ k → spec_FreeAt.f k a b s c = some g) ∧ (g = true ↔ Gok a b s ∧ Fr s c) := by
 obtain ⟨g, K, h, hg⟩ := gridOk_ev a b s hs
 cases g with
 | false =>
  refine ⟨false, K, fun k hk => ?_, ⟨fun h => (by cases h), fun h2 => absurd (hg.mpr h2.1) (by decide)⟩⟩
  unfold spec_FreeAt.f
  rw [(h k hk).1]
  rfl
 | true =>
  refine ⟨decide (Fr s c), K, fun k hk => ?_, ⟨fun h => ⟨hg.mp rfl, of_decide_eq_true h⟩, fun h => decide_eq_true h.2⟩⟩
  unfold spec_FreeAt.f
  rw [(h k hk).1]
  simp only [Option.bind_some, reduceIte, isFree_eq]
  exact fr_nest s c
def fr (s : ByteArray) : Nat → Nat → List Int
 | 0, _ => []
 | d + 1, i => if Fr s (i : Int) then (i : Int) :: fr s d (i + 1) else fr s d (i + 1)
theorem fr_len (s : ByteArray) : ∀ d i, (fr s d i).length ≤ d
 | 0, _ => Nat.le_refl _
 | d + 1, i => by
  unfold fr
  have := fr_len s d (i + 1)
  split <;> simp <;> omega
open Classical in
noncomputable def frees (a b : Int) (s : ByteArray) : List Int := if Gok a b s then fr s s.size 0 else []
theorem frees_len (a b : Int) (s : ByteArray) : (frees a b s).length ≤ 64 := by
 unfold frees
 split
 ·rename_i h
  have := fr_len s s.size 0
  have := Gok_size h
  omega
 ·simp
theorem implFree_go (a b : Int) (s : ByteArray) (hg : Gok a b s) : ∀ (d i : Nat) (acc : List Int), i + d = s.size → acc.length ≤ i → impl_FreeCells.go a b s d i acc = some (acc ++ fr s d i)
 | 0, i, acc, hi, ha => by simp [impl_FreeCells.go, fr]
 | d + 1, i, acc, hi, ha => by
  have hsz := Gok_size hg
  have hk := hg.2.2.2.2.2 i (by omega)
  have hb : bt s (i : Int) = ((s[i]'(by omega)).toNat : Int) := by
   unfold bt
   rw [dif_pos (by rw [Int.toNat_natCast]; omega)]
   simp
  have hlt : (s[i]'(by omega)).toNat < 128 := by
   unfold Kind at hk
   rw [hb] at hk
   omega
  unfold impl_FreeCells.go fr
  rw [dif_pos (by omega), if_pos hlt, isFree_eq, Option.bind_some]
  by_cases c : Fr s (i : Int)
  ·rw [decide_eq_true c, if_pos rfl, if_pos (by omega), if_pos c, implFree_go a b s hg d (i + 1) _ (by omega) (by simp; omega)]
   simp
  ·rw [decide_eq_false c, if_neg (by decide), if_neg c, implFree_go a b s hg d (i + 1) _ (by omega) (by omega)]
theorem implFree_ev (a b : Int) (s : ByteArray) (hs : s.size ≤ 1048576) : ∃ K, ∀ k, K ≤ k → impl_FreeCells.f k a b s = some (frees a b s) := by
 obtain ⟨g, K, h, hg⟩ := gridOk_ev a b s hs
 refine ⟨K, fun k hk => ?_⟩
 unfold impl_FreeCells.f frees
 rw [(h k hk).2, Option.bind_some]
 cases g with
 | true =>
  have hG := hg.mp rfl
  rw [if_pos rfl, if_pos hG, implFree_go a b s hG s.size 0 [] (by omega) (by simp)]
  simp
 | false =>
  rw [if_neg (by decide), if_neg (fun h => absurd (hg.mpr h) (by decide))]
end Go.Proofs.Ytmdkfmbgddhjcaa.Pure
/- The cells around a cell: what the program's and the reference's lists hold. -/
namespace Go.Proofs.Ytmdkfmbgddhjcaa.Pure
open Go.RowKit Go.Proofs.Ytmdkfmbgddhjcaa.Q Go.Proofs.YtmdkfmbgddhjcaaW.PrintWords Go.Proofs.YtmdkfmbgddhjcaaW.PrintLast
def Adj (a : Int) (s : ByteArray) (c x : Int) : Prop := Fr s c ∧ Fr s x ∧ (x = c - a ∨ (x = c - 1 ∧ 0 < c % a) ∨ (x = c + 1 ∧ c % a < a - 1) ∨ x = c + a)
theorem Fr_lt {s : ByteArray} {c : Int} (h : Fr s c) : 0 ≤ c ∧ c < (s.size : Int) := ⟨h.1, h.2.1⟩
theorem around_j3 (a b : Int) (s : ByteArray) (c : Int) (l : List Int) (t : Bool) (hc : 0 ≤ c) (hc1 : c ≤ 64) (ha : 1 ≤ a) (ha1 : a ≤ 8) (hl : l.length ≤ 10) (k : Nat) :
  impl_around.j3 (k + 1) c l t a b s = some (l ++ (if t = true then [c + 1] else []) ++ (if Fr s (c + a) then [c + a] else [])) := by
 have e1 : wrap64 (c + 1) = c + 1 := w64 (by omega) (by omega)
 have e2 : wrap64 (c + a) = c + a := w64 (by omega) (by omega)
 cases t with
 | true =>
  simp only [impl_around.j3, if_pos, e1, e2, isFree_eq, Option.bind_some, if_pos (show l.length < 17592186044416 by omega)]
  by_cases h : Fr s (c + a)
  ·rw [decide_eq_true h, if_pos rfl, if_pos h, if_pos (by simp; omega)]
  ·rw [decide_eq_false h, if_neg h]; simp
 | false =>
  simp only [impl_around.j3, Bool.false_eq_true, if_false, e1, e2, isFree_eq, Option.bind_some]
  by_cases h : Fr s (c + a)
  ·rw [decide_eq_true h, if_pos rfl, if_pos h, if_pos (by omega)]; simp
  ·rw [decide_eq_false h, if_neg h]; simp
theorem around_j2 (a b : Int) (s : ByteArray) (c : Int) (l : List Int) (hc : 0 ≤ c) (hc1 : c ≤ 64) (ha : 1 ≤ a) (ha1 : a ≤ 8) (hl : l.length ≤ 10) (k : Nat) :
  impl_around.j2 (k + 2) c l a b s = some (l ++ (if c % a < a - 1 ∧ Fr s (c + 1) then [c + 1] else []) ++ (if Fr s (c + a) then [c + a] else [])) := by
 have e1 : wrap64 (c + 1) = c + 1 := w64 (by omega) (by omega)
 have e2 : wrap64 (a - 1) = a - 1 := w64 (by omega) (by omega)
 have e3 : Int.tmod c a = c % a := Int.tmod_eq_emod_of_nonneg hc
 rw [impl_around.j2, if_neg (by omega), e1, e2, e3]
 by_cases h : c % a < a - 1
 ·rw [if_pos h, isFree_eq, Option.bind_some, around_j3 a b s c l _ hc hc1 ha ha1 hl]
  simp [h]
 ·rw [if_neg h, around_j3 a b s c l _ hc hc1 ha ha1 hl]
  simp [h]
theorem around_j1 (a b : Int) (s : ByteArray) (c : Int) (l : List Int) (t : Bool) (hc : 0 ≤ c) (hc1 : c ≤ 64) (ha : 1 ≤ a) (ha1 : a ≤ 8) (hl : l.length ≤ 4) (k : Nat) :
  impl_around.j1 (k + 3) c l t a b s = some (l ++ (if t = true then [c - 1] else []) ++ (if c % a < a - 1 ∧ Fr s (c + 1) then [c + 1] else []) ++ (if Fr s (c + a) then [c + a] else [])) := by
 have e1 : wrap64 (c - 1) = c - 1 := w64 (by omega) (by omega)
 rw [impl_around.j1, e1]
 cases t with
 | true =>
  rw [if_pos rfl, if_pos (by omega), around_j2 a b s c _ hc hc1 ha ha1 (by simp; omega)]
  simp
 | false =>
  rw [if_neg (by decide), around_j2 a b s c _ hc hc1 ha ha1 (by omega)]
  simp
theorem around_j0 (a b : Int) (s : ByteArray) (c : Int) (l : List Int) (hc : 0 ≤ c) (hc1 : c ≤ 64) (ha : 1 ≤ a) (ha1 : a ≤ 8) (hl : l.length ≤ 4) (k : Nat) :
  impl_around.j0 (k + 4) c l a b s = some (l ++ (if 0 < c % a ∧ Fr s (c - 1) then [c - 1] else []) ++ (if c % a < a - 1 ∧ Fr s (c + 1) then [c + 1] else []) ++ (if Fr s (c + a) then [c + a] else [])) := by
 have e1 : wrap64 (c - 1) = c - 1 := w64 (by omega) (by omega)
 have e3 : Int.tmod c a = c % a := Int.tmod_eq_emod_of_nonneg hc
 rw [impl_around.j0, if_neg (by omega), e1, e3]
 by_cases h : c % a > 0
 ·rw [if_pos h, isFree_eq, Option.bind_some, around_j1 a b s c l _ hc hc1 ha ha1 hl]
  simp [h]
 ·rw [if_neg h, around_j1 a b s c l _ hc hc1 ha ha1 hl]
  simp [show ¬ 0 < c % a from h]
theorem mem_opt {x y : Int} (p : Prop) [Decidable p] : x ∈ (if p then [y] else []) ↔ p ∧ x = y := by
 by_cases h : p <;> simp [h]
theorem implAround_ev (a b : Int) (s : ByteArray) (hG : Gok a b s) (c : Int) (hc : Fr s c) : ∃ ns K, (∀ k, K ≤ k → impl_around.f k a b s c = some ns) ∧ (∀ x, x ∈ ns ↔ Adj a s c x) ∧ ns.length ≤ 4 := by
 have hs := Gok_size hG
 obtain ⟨a0, a1, b0, b1, hab, _⟩ := hG
 obtain ⟨c0, c1⟩ := Fr_lt hc
 have e1 : wrap64 (c - a) = c - a := w64 (by omega) (by omega)
 refine ⟨(if Fr s (c - a) then [c - a] else []) ++ (if 0 < c % a ∧ Fr s (c - 1) then [c - 1] else []) ++ (if c % a < a - 1 ∧ Fr s (c + 1) then [c + 1] else []) ++ (if Fr s (c + a) then [c + a] else []), 4, fun k hk => ?_, fun x => ?_, ?_⟩
 ·obtain ⟨k, rfl⟩ : ∃ m, k = m + 4 := ⟨k - 4, by omega⟩
  unfold impl_around.f
  rw [isFree_eq, Option.bind_some, decide_eq_true hc, if_pos rfl, e1, isFree_eq, Option.bind_some]
  by_cases h : Fr s (c - a)
  ·rw [decide_eq_true h, if_pos rfl, if_pos (by simp), around_j0 a b s c _ c0 (by omega) a0 a1 (by simp), if_pos h]; simp
  ·rw [decide_eq_false h, if_neg (by decide), around_j0 a b s c _ c0 (by omega) a0 a1 (by simp), if_neg h]
 ·simp only [List.mem_append, mem_opt]
  unfold Adj
  constructor
  ·rintro (((⟨h, rfl⟩ | ⟨⟨h1, h⟩, rfl⟩) | ⟨⟨h1, h⟩, rfl⟩) | ⟨h, rfl⟩)
   ·exact ⟨hc, h, .inl rfl⟩
   ·exact ⟨hc, h, .inr (.inl ⟨rfl, h1⟩)⟩
   ·exact ⟨hc, h, .inr (.inr (.inl ⟨rfl, h1⟩))⟩
   ·exact ⟨hc, h, .inr (.inr (.inr rfl))⟩
  ·rintro ⟨_, h, (rfl | ⟨rfl, h1⟩ | ⟨rfl, h1⟩ | rfl)⟩
   ·exact .inl (.inl (.inl ⟨h, rfl⟩))
   ·exact .inl (.inl (.inr ⟨⟨h1, h⟩, rfl⟩))
   ·exact .inl (.inr ⟨⟨h1, h⟩, rfl⟩)
   ·exact .inr ⟨h, rfl⟩
 ·by_cases h1 : Fr s (c - a) <;> by_cases h2 : 0 < c % a ∧ Fr s (c - 1) <;> by_cases h3 : c % a < a - 1 ∧ Fr s (c + 1) <;> by_cases h4 : Fr s (c + a) <;> simp [h1, h2, h3, h4]
theorem cellAt_ev (a b : Int) (s : ByteArray) (hG : Gok a b s) (x y : Int) (hx : -10 ≤ x ∧ x ≤ 100) (hy : -10 ≤ y ∧ y ≤ 100) : ∃ K, ∀ k, K ≤ k → spec_CellAt.f k a b s x y = some (if (0 ≤ x ∧ x ≤ a - 1) ∧ (0 ≤ y ∧ y ≤ b - 1) then y * a + x else -1) := by
 have hs := Gok_size hG
 obtain ⟨g0, K0, h0, q0⟩ := gridOk_ev a b s (by omega)
 obtain rfl := q0.mpr hG
 obtain ⟨a0, a1, b0, b1, hab, _⟩ := hG
 refine ⟨K0, fun k hk => ?_⟩
 unfold spec_CellAt.f
 rw [(h0 k hk).1, Option.bind_some, if_pos rfl, w64 (by omega) (by omega), w64 (by omega) (by omega), l01In_eq, Option.bind_some]
 by_cases h1 : 0 ≤ x ∧ x ≤ a - 1
 ·rw [decide_eq_true h1, if_pos rfl, l01In_eq, Option.bind_some]
  by_cases h2 : 0 ≤ y ∧ y ≤ b - 1
  ·have hp0 : 0 ≤ y * a := Int.mul_nonneg h2.1 (by omega)
   have hp1 : y * a ≤ 7 * 8 := Int.mul_le_mul (by omega) a1 (by omega) (by omega)
   rw [decide_eq_true h2, if_pos rfl, if_pos ⟨h1, h2⟩, w64 (x := y * a) (by omega) (by omega), w64 (by omega) (by omega)]
  ·rw [decide_eq_false h2, if_neg (by decide), if_neg (fun h => h2 h.2)]
 ·rw [decide_eq_false h1, if_neg (by decide), if_neg (fun h => h1 h.1)]
theorem around_l0 (a b : Int) (s : ByteArray) (hG : Gok a b s) (v : List Int) (hv : v.length = 4) : ∀ (d i : Nat) (acc : List Int), i + d = 4 → acc.length ≤ 10 - d → ∃ K, ∀ k, K ≤ k → spec_Around.l0 k acc v (i : Int) a b s = some (acc ++ (v.drop i).filter (fun x => decide (Fr s x)))
 | 0, i, acc, hi, _ => by
  refine ⟨1, fun k hk => ?_⟩
  obtain ⟨k, rfl⟩ : ∃ m, k = m + 1 := ⟨k - 1, by omega⟩
  rw [spec_Around.l0, if_neg (by omega), List.drop_of_length_le (by omega)]; simp
 | d + 1, i, acc, hi, hl => by
  have hs := Gok_size hG
  obtain ⟨g, K1, h1, q1⟩ := specFreeAt_ev a b s (by omega) (rd v (i : Int))
  have e : wrap64 ((i : Int) + 1) = ((i + 1 : Nat) : Int) := by rw [w64 (by omega) (by omega)]; rfl
  by_cases hf : Fr s (rd v (i : Int))
  ·obtain rfl := q1.mpr ⟨hG, hf⟩
   obtain ⟨K2, h2⟩ := around_l0 a b s hG v hv d (i + 1) (acc ++ [rd v (i : Int)]) (by omega) (by simp; omega)
   refine ⟨K1 + K2 + 1, fun k hk => ?_⟩
   obtain ⟨k, rfl⟩ : ∃ m, k = m + 1 := ⟨k - 1, by omega⟩
   rw [spec_Around.l0, if_pos (by omega), if_pos (by omega), if_pos (by omega), h1 k (by omega), Option.bind_some, if_pos rfl, if_pos (by omega), e, h2 k (by omega), drop_cons v i (by omega), List.filter_cons_of_pos (by rw [← rd_get v i (by omega)]; exact decide_eq_true hf), rd_get v i (by omega)]
   simp
  ·have hg : g = false := by
    cases g with
    | false => rfl
    | true => exact absurd (q1.mp rfl).2 hf
   subst hg
   obtain ⟨K2, h2⟩ := around_l0 a b s hG v hv d (i + 1) acc (by omega) (by omega)
   refine ⟨K1 + K2 + 1, fun k hk => ?_⟩
   obtain ⟨k, rfl⟩ : ∃ m, k = m + 1 := ⟨k - 1, by omega⟩
   rw [spec_Around.l0, if_pos (by omega), if_pos (by omega), if_pos (by omega), h1 k (by omega), Option.bind_some, if_neg (by decide), e, h2 k (by omega), drop_cons v i (by omega), List.filter_cons_of_neg (by rw [← rd_get v i (by omega)]; simpa using hf)]
theorem specAround_ev (a b : Int) (s : ByteArray) (hG : Gok a b s) (c : Int) (hc : Fr s c) : ∃ ns K, (∀ k, K ≤ k → spec_Around.f k a b s c = some ns) ∧ (∀ x, x ∈ ns ↔ Adj a s c x) ∧ ns.length ≤ 4 := by
 have hs := Gok_size hG
 obtain ⟨g0, K0, h0, q0⟩ := gridOk_ev a b s (by omega)
 obtain rfl := q0.mpr hG
 obtain ⟨g1, K1, h1, q1⟩ := specFreeAt_ev a b s (by omega) c
 obtain rfl := q1.mpr ⟨hG, hc⟩
 obtain ⟨a0, a1, b0, b1, hab, _⟩ := id hG
 obtain ⟨c0, c1⟩ := Fr_lt hc
 have m0 := Int.emod_nonneg c (show a ≠ 0 by omega)
 have m1 := Int.emod_lt_of_pos c (show 0 < a by omega)
 have y0 := Int.ediv_nonneg c0 (show 0 ≤ a by omega)
 have y1 : c / a < b := Int.ediv_lt_of_lt_mul (by omega) (by rw [Int.mul_comm]; omega)
 have hd : c / a * a + c % a = c := by rw [Int.mul_comm]; exact Int.mul_ediv_add_emod c a
 have e1 : Int.tmod c a = c % a := Int.tmod_eq_emod_of_nonneg c0
 have e2 : Int.tdiv c a = c / a := Int.tdiv_eq_ediv_of_nonneg c0
 have hsp : ∀ k, K0 ≤ k → spec_SpotOf.f k a b s c = some (c % a, c / a) := fun k hk => by
  unfold spec_SpotOf.f
  rw [(h0 k hk).1, Option.bind_some, if_pos rfl, if_neg (by omega), if_neg (by omega), if_neg (by omega), e1, e2, w64 (by omega) (by omega)]
 generalize hX : c % a = X at *
 generalize hY : c / a = Y at *
 have w1 : wrap64 (Y - 1) = Y - 1 := w64 (by omega) (by omega)
 have w2 : wrap64 (X - 1) = X - 1 := w64 (by omega) (by omega)
 have w3 : wrap64 (X + 1) = X + 1 := w64 (by omega) (by omega)
 have w4 : wrap64 (Y + 1) = Y + 1 := w64 (by omega) (by omega)
 obtain ⟨K2, h2⟩ := cellAt_ev a b s hG X (Y - 1) (by omega) (by omega)
 obtain ⟨K3, h3⟩ := cellAt_ev a b s hG (X - 1) Y (by omega) (by omega)
 obtain ⟨K4, h4⟩ := cellAt_ev a b s hG (X + 1) Y (by omega) (by omega)
 obtain ⟨K5, h5⟩ := cellAt_ev a b s hG X (Y + 1) (by omega) (by omega)
 generalize hv1 : (if (0 ≤ X ∧ X ≤ a - 1) ∧ (0 ≤ Y - 1 ∧ Y - 1 ≤ b - 1) then (Y - 1) * a + X else -1) = v1 at h2
 generalize hv2 : (if (0 ≤ X - 1 ∧ X - 1 ≤ a - 1) ∧ (0 ≤ Y ∧ Y ≤ b - 1) then Y * a + (X - 1) else -1) = v2 at h3
 generalize hv3 : (if (0 ≤ X + 1 ∧ X + 1 ≤ a - 1) ∧ (0 ≤ Y ∧ Y ≤ b - 1) then Y * a + (X + 1) else -1) = v3 at h4
 generalize hv4 : (if (0 ≤ X ∧ X ≤ a - 1) ∧ (0 ≤ Y + 1 ∧ Y + 1 ≤ b - 1) then (Y + 1) * a + X else -1) = v4 at h5
 obtain ⟨K6, h6⟩ := around_l0 a b s hG [v1, v2, v3, v4] rfl 4 0 [] rfl (by simp)
 refine ⟨[v1, v2, v3, v4].filter (fun x => decide (Fr s x)), K0 + K1 + K2 + K3 + K4 + K5 + K6, fun k hk => ?_, fun x => ?_, List.length_filter_le _ _⟩
 ·unfold spec_Around.f
  rw [Option.bind_some, h1 k (by omega), Option.bind_some, if_pos rfl, hsp k (by omega), Option.bind_some]
  simp only [w1, w2, w3, w4]
  rw [h2 k (by omega), Option.bind_some, h3 k (by omega), Option.bind_some, h4 k (by omega), Option.bind_some, h5 k (by omega), Option.bind_some]
  have := h6 k (by omega)
  rw [List.drop_zero, List.nil_append] at this
  exact this
 ·have hn1 : Fr s (-1) → False := fun h => by have := h.1; omega
  have u1 : Fr s x → (x = v1 ↔ x = c - a) := fun hx => by
   obtain ⟨x0, x1⟩ := Fr_lt hx
   rw [← hv1]
   by_cases hy : Y = 0
   ·have : Y * a = 0 := by rw [hy, Int.zero_mul]
    rw [if_neg (by omega)]
    constructor <;> intro h <;> omega
   ·rw [if_pos (by omega), Int.sub_mul, Int.one_mul]
    constructor <;> intro h <;> omega
  have u2 : Fr s x → (x = v2 ↔ (x = c - 1 ∧ 0 < X)) := fun hx => by
   obtain ⟨x0, x1⟩ := Fr_lt hx
   rw [← hv2]
   by_cases hy : X = 0
   ·rw [if_neg (by omega)]
    constructor <;> intro h <;> omega
   ·rw [if_pos (by omega)]
    constructor <;> intro h <;> omega
  have u3 : Fr s x → (x = v3 ↔ (x = c + 1 ∧ X < a - 1)) := fun hx => by
   obtain ⟨x0, x1⟩ := Fr_lt hx
   rw [← hv3]
   by_cases hy : X = a - 1
   ·rw [if_neg (by omega)]
    constructor <;> intro h <;> omega
   ·rw [if_pos (by omega)]
    constructor <;> intro h <;> omega
  have u4 : Fr s x → (x = v4 ↔ x = c + a) := fun hx => by
   obtain ⟨x0, x1⟩ := Fr_lt hx
   rw [← hv4]
   by_cases hy : Y = b - 1
   ·have : Y * a = a * b - a := by rw [hy, Int.sub_mul, Int.one_mul, Int.mul_comm]
    rw [if_neg (by omega)]
    constructor <;> intro h <;> omega
   ·rw [if_pos (by omega), Int.add_mul, Int.one_mul]
    constructor <;> intro h <;> omega
  rw [List.mem_filter]
  unfold Adj
  rw [hX]
  simp only [List.mem_cons, List.not_mem_nil, or_false, decide_eq_true_eq]
  constructor
  ·rintro ⟨h, hx⟩
   rw [u1 hx, u2 hx, u3 hx, u4 hx] at h
   exact ⟨hc, hx, h⟩
  ·rintro ⟨_, hx, h⟩
   rw [u1 hx, u2 hx, u3 hx, u4 hx]
   exact ⟨h, hx⟩
end Go.Proofs.Ytmdkfmbgddhjcaa.Pure
/- Whether a list holds a number: what the reference answers. -/
namespace Go.Proofs.Ytmdkfmbgddhjcaa.Pure
open Go.RowKit Go.Proofs.Ytmdkfmbgddhjcaa.Q Go.Proofs.YtmdkfmbgddhjcaaW.PrintWords Go.Proofs.YtmdkfmbgddhjcaaW.PrintLast
theorem has_l0 (l : List Int) (c : Int) (hn : l.length ≤ 9223372036854775807) : ∀ (d i k : Nat), i + d = l.length → d < k → spec_l03Has.l0 k l c (i : Int) = some (decide (c ∈ l.drop i))
 | 0, i, k, hi, hk => by
  obtain ⟨k, rfl⟩ : ∃ m, k = m + 1 := ⟨k - 1, by omega⟩
  simp only [spec_l03Has.l0]
  rw [if_neg (by omega), List.drop_of_length_le (by omega)]
  simp
 | d + 1, i, k, hi, hk => by
  obtain ⟨k, rfl⟩ : ∃ m, k = m + 1 := ⟨k - 1, by omega⟩
  simp only [spec_l03Has.l0]
  rw [if_pos (by omega), if_pos (by omega), rd_get l i (by omega), drop_cons l i (by omega)]
  by_cases e : l[i]'(by omega) = c
  ·rw [if_pos e, decide_eq_true (by simp [e])]
  ·rw [if_neg e, w64 (by omega) (by omega), show ((i : Int) + 1) = ((i + 1 : Nat) : Int) by omega, has_l0 l c hn d (i + 1) k (by omega) (by omega)]
   congr 1
   exact decide_eq_decide.mpr (by simp only [List.mem_cons, Ne.symm e, false_or])
theorem has_eq (l : List Int) (c : Int) (hn : l.length ≤ 9223372036854775807) (k : Nat) (hk : l.length < k) : spec_l03Has.f k l c = some (decide (c ∈ l)) := by
 have := has_l0 l c hn l.length 0 k (by omega) hk
 simpa [spec_l03Has.f] using this
end Go.Proofs.Ytmdkfmbgddhjcaa.Pure
/- How many steps each cell is from the nearest of the given ones: the program's queue and the reference's levels answer alike. -/
namespace Go.Proofs.Ytmdkfmbgddhjcaa.Pure
open Go.RowKit Go.Proofs.Ytmdkfmbgddhjcaa.Q Go.Proofs.YtmdkfmbgddhjcaaW.PrintWords Go.Proofs.YtmdkfmbgddhjcaaW.PrintLast
theorem wS (m : Nat) (h : m ≤ 1048576) : wrap64 ((m : Int) + 1) = ((m + 1 : Nat) : Int) := by
 rw [w64 (by omega) (by omega)]
 rfl
structure Qu (n : Nat) (d q : List Int) : Prop where
 rng : ∀ j : Nat, j < q.length → 0 ≤ rd q (j : Int) ∧ rd q (j : Int) < n ∧ 0 ≤ rd d (rd q (j : Int))
 all : ∀ c : Int, 0 ≤ c → c < n → 0 ≤ rd d c → c ∈ q
 cnt : q.length + negs d ≤ n
 srt : ∀ j k : Nat, j ≤ k → k < q.length → rd d (rd q (j : Int)) ≤ rd d (rd q (k : Int))
theorem Qu.step {n d q} (h : Qu n d q) (hl : d.length = n) {x v : Int} (hx0 : 0 ≤ x) (hx1 : x < n) (hx : rd d x < 0) (hv : 0 ≤ v) (hle : ∀ j : Nat, j < q.length → rd d (rd q (j : Int)) ≤ v) : Qu n (d.set x.toNat v) (q ++ [x]) := by
 have old : ∀ j : Nat, j < q.length → rd (d.set x.toNat v) (rd (q ++ [x]) (j : Int)) = rd d (rd q (j : Int)) := by
  intro j hj
  obtain ⟨r0, r1, r2⟩ := h.rng j hj
  rw [rd_app1 q x j hj, rd_put2 d x v _ hx0 r0 (by intro e; rw [e] at r2; omega)]
 have new : rd (d.set x.toNat v) (rd (q ++ [x]) (q.length : Int)) = v := by
  rw [rd_app2, rd_put1 d x v hx0 (by omega)]
 refine ⟨?_, ?_, ?_, ?_⟩
 ·intro j hj
  rw [List.length_append] at hj
  by_cases e : j = q.length
  ·subst e
   rw [new, rd_app2]
   exact ⟨hx0, hx1, hv⟩
  ·have hj' : j < q.length := by simp at hj; omega
   obtain ⟨r0, r1, r2⟩ := h.rng j hj'
   rw [old j hj', rd_app1 q x j hj']
   exact ⟨r0, r1, r2⟩
 ·intro c h0 h1 h2
  by_cases e : c = x
  ·rw [e]; simp
  ·rw [rd_put2 d x v c hx0 h0 e] at h2
   exact List.mem_append_left _ (h.all c h0 h1 h2)
 ·have h1 := negs_put d x v hx0 (by omega) hx hv
  have h2 := h.cnt
  rw [List.length_append]
  simp
  omega
 ·intro j k hjk hk
  rw [List.length_append] at hk
  by_cases e : k = q.length
  ·subst e
   rw [new]
   by_cases e2 : j = q.length
   ·subst e2; rw [new]; exact Int.le_refl _
   ·rw [old j (by omega)]; exact hle j (by omega)
  ·have hk' : k < q.length := by simp at hk; omega
   rw [old j (by omega), old k hk']
   exact h.srt j k hjk hk'
theorem Part_init (A : Int → Int → Prop) (n : Nat) : Part A n [] (List.replicate n (-1)) := by
 have e : ∀ c : Int, 0 ≤ c → c < n → rd (List.replicate n (-1)) c = -1 := by
  intro c h0 h1
  obtain ⟨j, rfl⟩ := Int.eq_ofNat_of_zero_le h0
  rw [rd_get _ j (by simp; omega)]; simp
 refine ⟨by simp, ?_, ?_, ?_⟩
 ·intro c h0 h1; rw [e c h0 h1]; omega
 ·intro c h0 h1; rw [e c h0 h1]; simp
 ·intro c h0 h1 h2; rw [e c h0 h1] at h2; omega
theorem Qu_init (n : Nat) : Qu n (List.replicate n (-1)) [] := by
 refine ⟨fun j hj => absurd hj (by simp), ?_, ?_, fun j k _ hk => absurd hk (by simp)⟩
 ·intro c h0 h1 h2
  obtain ⟨j, rfl⟩ := Int.eq_ofNat_of_zero_le h0
  rw [rd_get _ j (by simp; omega)] at h2
  simp at h2
 ·simp [negs, List.countP_replicate]
theorem take_succ_mem (l : List Int) (i : Nat) (h : i < l.length) (c : Int) : c ∈ l.take (i + 1) ↔ c ∈ l.take i ∨ c = rd l (i : Int) := by
 rw [List.take_succ_eq_append_getElem h, List.mem_append, rd_get l i h]; simp
theorem Part.start {A n S S' d} (h : Part A n S d) (hz : ∀ c : Int, 0 ≤ c → c < n → rd d c ≤ 0) {x : Int} (hx0 : 0 ≤ x) (hx1 : x < n) (hm : ∀ c, c ∈ S' ↔ c ∈ S ∨ c = x) : Part A n S' (d.set x.toNat 0) ∧ ∀ c : Int, 0 ≤ c → c < n → rd (d.set x.toNat 0) c ≤ 0 := by
 have hl := h.len
 have e1 : rd (d.set x.toNat 0) x = 0 := rd_put1 d x 0 hx0 (by omega)
 have e2 : ∀ y : Int, 0 ≤ y → y ≠ x → rd (d.set x.toNat 0) y = rd d y := fun y hy hne => rd_put2 d x 0 y hx0 hy hne
 have hz' : ∀ c : Int, 0 ≤ c → c < n → rd (d.set x.toNat 0) c ≤ 0 := by
  intro c h0 h1
  by_cases e : c = x
  ·rw [e, e1]; exact Int.le_refl 0
  ·rw [e2 c h0 e]; exact hz c h0 h1
 refine ⟨⟨by rw [List.length_set]; exact hl, ?_, ?_, ?_⟩, hz'⟩
 ·intro c h0 h1
  by_cases e : c = x
  ·rw [e, e1]; omega
  ·rw [e2 c h0 e]; exact h.low c h0 h1
 ·intro c h0 h1
  rw [hm]
  by_cases e : c = x
  ·rw [e, e1]; exact ⟨fun _ => .inr rfl, fun _ => rfl⟩
  ·rw [e2 c h0 e, h.zero c h0 h1]; exact ⟨.inl, fun h => h.resolve_right e⟩
 ·intro c h0 h1 h2
  have := hz' c h0 h1
  omega
theorem Part.same {A n S S' d} (h : Part A n S d) (hz : ∀ c : Int, 0 ≤ c → c < n → rd d c ≤ 0) {x : Int} (hx0 : 0 ≤ x) (hx1 : x < n) (hm : ∀ c, c ∈ S' ↔ c ∈ S ∨ c = x) (hp : ¬ rd d x < 0) : Part A n S' d := by
 have h1 := hz x hx0 hx1
 have h2 : x ∈ S := (h.zero x hx0 hx1).mp (by omega)
 refine ⟨h.len, h.low, ?_, h.back⟩
 intro c h0 h1
 rw [h.zero c h0 h1, hm]
 exact ⟨.inl, fun h => h.elim id (fun e => by rw [e]; exact h2)⟩
theorem impl_l0 (A : Int → Int → Prop) (a b : Int) (s : ByteArray) (n : Nat) (hn : n ≤ 64) (src : List Int) (hlen : src.length ≤ 1048576) (hsrc : ∀ x ∈ src, 0 ≤ x ∧ x < (n : Int)) : ∀ (e i : Nat) (d q : List Int), i + e = src.length → Part A n (src.take i) d → (∀ c : Int, 0 ≤ c → c < n → rd d c ≤ 0) → Qu n d q →
  ∃ d' q', Part A n src d' ∧ (∀ c : Int, 0 ≤ c → c < n → rd d' c ≤ 0) ∧ Qu n d' q' ∧ ∀ k, impl_StepsFrom.l0 (k + e + 1) d q src (src.length : Int) (i : Int) a b s = impl_StepsFrom.l1 k d' q' 0 a b s
 | 0, i, d, q, hi, hp, hz, hq => by
  rw [List.take_of_length_le (by omega)] at hp
  refine ⟨d, q, hp, hz, hq, fun k => ?_⟩
  rw [impl_StepsFrom.l0, if_neg (by omega)]
 | e + 1, i, d, q, hi, hp, hz, hq => by
  have hx := hsrc (rd src (i : Int)) (by rw [rd_get src i (by omega)]; exact List.getElem_mem _)
  have hl := hp.len
  have hm := take_succ_mem src i (by omega)
  have hcnt := hq.cnt
  obtain ⟨x, ex⟩ : ∃ x, x = rd src (i : Int) := ⟨_, rfl⟩
  rw [← ex] at hx hm
  have hk : ∀ k : Nat, k + (e + 1) + 1 = (k + e + 1) + 1 := fun k => by omega
  have c1 : (i : Int) < (src.length : Int) := by omega
  have c2 : (0 : Int) ≤ (i : Int) := by omega
  have c3 : x < (d.length : Int) := by omega
  have c4 : q.length < 17592186044416 := by omega
  by_cases hneg : rd d x < 0
  ·obtain ⟨hp', hz'⟩ := hp.start hz hx.1 hx.2 hm
   have hq' := hq.step hl hx.1 hx.2 hneg (Int.le_refl 0) (fun j hj => hz _ (hq.rng j hj).1 (hq.rng j hj).2.1)
   obtain ⟨d', q', h1, h2, h3, h4⟩ := impl_l0 A a b s n hn src hlen hsrc e (i + 1) _ _ (by omega) hp' hz' hq'
   refine ⟨d', q', h1, h2, h3, fun k => ?_⟩
   rw [hk, impl_StepsFrom.l0, ← ex, if_pos c1, if_pos c2, if_pos c1, if_pos hx.1, if_pos c3, if_pos hneg, if_pos c4, wS i (by omega)]
   exact h4 k
  ·obtain ⟨d', q', h1, h2, h3, h4⟩ := impl_l0 A a b s n hn src hlen hsrc e (i + 1) _ _ (by omega) (hp.same hz hx.1 hx.2 hm hneg) hz hq
   refine ⟨d', q', h1, h2, h3, fun k => ?_⟩
   rw [hk, impl_StepsFrom.l0, ← ex, if_pos c1, if_pos c2, if_pos c1, if_pos hx.1, if_pos c3, if_neg hneg, wS i (by omega)]
   exact h4 k
structure In (A : Int → Int → Prop) (n : Nat) (src : List Int) (c : Int) (i : Nat) (d q : List Int) : Prop where
 part : Part A n src d
 qu : Qu n d q
 lt : i < q.length
 at_ : rd q (i : Int) = c
 near : ∀ j : Nat, j < q.length → rd d (rd q (j : Int)) ≤ rd d c + 1
 clo : ∀ j : Nat, j < i → Clo A d (rd q (j : Int))
structure Out (A : Int → Int → Prop) (n : Nat) (src : List Int) (i : Nat) (d q : List Int) : Prop where
 part : Part A n src d
 qu : Qu n d q
 le : i ≤ q.length
 near : i < q.length → ∀ j : Nat, j < q.length → rd d (rd q (j : Int)) ≤ rd d (rd q (i : Int)) + 1
 clo : ∀ j : Nat, j < i → Clo A d (rd q (j : Int))
theorem In.step {A : Int → Int → Prop} {n : Nat} {src : List Int} {c : Int} {i : Nat} {d q : List Int} (hA : ∀ c x, A c x → 0 ≤ x ∧ x < (n : Int)) (h : In A n src c i d q) {x : Int} (hx : A c x) (hneg : rd d x < 0) : In A n src c i (d.set x.toNat (rd d c + 1)) (q ++ [x]) ∧ rd (d.set x.toNat (rd d c + 1)) x = rd d c + 1 ∧ ∀ y : Int, 0 ≤ y → y ≠ x → rd (d.set x.toNat (rd d c + 1)) y = rd d y := by
 obtain ⟨x0, x1⟩ := hA c x hx
 obtain ⟨c0, c1, c2⟩ := h.qu.rng i h.lt
 rw [h.at_] at c0 c1 c2
 have hl := h.part.len
 have e1 : rd (d.set x.toNat (rd d c + 1)) x = rd d c + 1 := rd_put1 d x _ x0 (by omega)
 have e2 : ∀ y : Int, 0 ≤ y → y ≠ x → rd (d.set x.toNat (rd d c + 1)) y = rd d y := fun y hy hne => rd_put2 d x _ y x0 hy hne
 have ec : rd (d.set x.toNat (rd d c + 1)) c = rd d c := e2 c c0 (by intro e; rw [e] at c2; omega)
 have hlt := h.lt
 refine ⟨⟨h.part.step c0 c1 x0 x1 hx c2 hneg, h.qu.step hl x0 x1 hneg (by omega) h.near, by rw [List.length_append]; simp; omega, by rw [rd_app1 q x i h.lt]; exact h.at_, ?_, ?_⟩, e1, e2⟩
 ·intro j hj
  rw [ec]
  rw [List.length_append] at hj
  by_cases e : j = q.length
  ·rw [e, rd_app2, e1]; exact Int.le_refl _
  ·have hj' : j < q.length := by simp at hj; omega
   obtain ⟨r0, r1, r2⟩ := h.qu.rng j hj'
   rw [rd_app1 q x j hj', e2 _ r0 (by intro e; rw [e] at r2; omega)]
   exact h.near j hj'
 ·intro j hj
  obtain ⟨r0, r1, r2⟩ := h.qu.rng j (by omega)
  rw [rd_app1 q x j (by omega)]
  exact (h.clo j hj).step n hA _ x0 r0 r2 hneg
theorem In.out {A n src c i d q} (h : In A n src c i d q) (hc : Clo A d c) : Out A n src (i + 1) d q := by
 have hlt := h.lt
 refine ⟨h.part, h.qu, h.lt, ?_, ?_⟩
 ·intro h1 j hj
  have h2 := h.near j hj
  have h3 := h.qu.srt i (i + 1) (by omega) h1
  rw [h.at_] at h3
  omega
 ·intro j hj
  by_cases e : j = i
  ·rw [e, h.at_]; exact hc
  ·exact h.clo j (by omega)
theorem impl_l2 (A : Int → Int → Prop) (a b : Int) (s : ByteArray) (n : Nat) (hn : n ≤ 64) (hA : ∀ c x, A c x → 0 ≤ x ∧ x < (n : Int)) (src : List Int) (c : Int) (i : Nat) (ns : List Int) (hns : ∀ x, x ∈ ns ↔ A c x) (hnl : ns.length ≤ 4) :
  ∀ (e m : Nat) (d q : List Int), m + e = ns.length → In A n src c i d q → (∀ j : Nat, j < m → 0 ≤ rd d (rd ns (j : Int)) ∧ rd d (rd ns (j : Int)) ≤ rd d c + 1) →
  ∃ d' q', Out A n src (i + 1) d' q' ∧ ∀ k, impl_StepsFrom.l2 (k + e + 1) d q (i : Int) ns (ns.length : Int) (m : Int) a b s = impl_StepsFrom.l1 k d' q' ((i + 1 : Nat) : Int) a b s
 | 0, m, d, q, hm, hI, hnb => by
  have hcl : Clo A d c := by
   intro x hx
   obtain ⟨j, hj, ej⟩ := (mem_rd ns x).mp ((hns x).mpr hx)
   rw [← ej]
   exact hnb j (by omega)
  have hlt := hI.lt
  have hcnt := hI.qu.cnt
  refine ⟨d, q, hI.out hcl, fun k => ?_⟩
  rw [impl_StepsFrom.l2, if_neg (by omega), w64 (by omega) (by omega)]
  rfl
 | e + 1, m, d, q, hm, hI, hnb => by
  obtain ⟨x, ex⟩ : ∃ x, x = rd ns (m : Int) := ⟨_, rfl⟩
  have hx : A c x := (hns x).mp (by rw [ex, rd_get ns m (by omega)]; exact List.getElem_mem _)
  obtain ⟨x0, x1⟩ := hA c x hx
  obtain ⟨c0, c1, c2⟩ := hI.qu.rng i hI.lt
  rw [hI.at_] at c0 c1 c2
  have hl := hI.part.len
  have hlt := hI.lt
  have hcnt := hI.qu.cnt
  have hdc := hI.part.lt c c0 c1
  have hk : ∀ k : Nat, k + (e + 1) + 1 = (k + e + 1) + 1 := fun k => by omega
  have d1 : (m : Int) < (ns.length : Int) := by omega
  have d2 : (0 : Int) ≤ (m : Int) := by omega
  have d3 : x < (d.length : Int) := by omega
  have d4 : (0 : Int) ≤ (i : Int) := by omega
  have d5 : (i : Int) < (q.length : Int) := by omega
  have d6 : c < (d.length : Int) := by omega
  have d7 : q.length < 17592186044416 := by omega
  by_cases hneg : rd d x < 0
  ·obtain ⟨hI', e1, e2⟩ := hI.step hA hx hneg
   have ec : rd (d.set x.toNat (rd d c + 1)) c = rd d c := e2 c c0 (by intro e; rw [e] at c2; omega)
   obtain ⟨d', q', h1, h2⟩ := impl_l2 A a b s n hn hA src c i ns hns hnl e (m + 1) _ _ (by omega) hI' (by
    intro j hj
    rw [ec]
    by_cases e : j = m
    ·rw [e, ← ex, e1]; exact ⟨by omega, Int.le_refl _⟩
    ·obtain ⟨g1, g2⟩ := hnb j (by omega)
     have hjx : A c (rd ns (j : Int)) := (hns _).mp (by rw [rd_get ns j (by omega)]; exact List.getElem_mem _)
     rw [e2 _ (hA _ _ hjx).1 (by intro e; rw [e] at g1; omega)]
     exact ⟨g1, g2⟩)
   refine ⟨d', q', h1, fun k => ?_⟩
   rw [hk, impl_StepsFrom.l2, ← ex, hI.at_, if_pos d1, if_pos d2, if_pos d1, if_pos x0, if_pos d3, if_pos hneg, if_pos d4, if_pos d5, if_pos c0, if_pos d6, if_pos d7, wS m (by omega), w64 (x := rd d c + 1) (by omega) (by omega)]
   exact h2 k
  ·have hx3 : x ∈ q := hI.qu.all x x0 x1 (by omega)
   obtain ⟨j0, hj0, ej0⟩ := (mem_rd q x).mp hx3
   have hx4 := hI.near j0 hj0
   rw [ej0] at hx4
   obtain ⟨d', q', h1, h2⟩ := impl_l2 A a b s n hn hA src c i ns hns hnl e (m + 1) d q (by omega) hI (by
    intro j hj
    by_cases e : j = m
    ·rw [e, ← ex]; exact ⟨by omega, hx4⟩
    ·exact hnb j (by omega))
   refine ⟨d', q', h1, fun k => ?_⟩
   rw [hk, impl_StepsFrom.l2, ← ex, if_pos d1, if_pos d2, if_pos d1, if_pos x0, if_pos d3, if_neg hneg, wS m (by omega)]
   exact h2 k
theorem impl_l1 (a b : Int) (s : ByteArray) (hG : Gok a b s) (src : List Int) (hfr : ∀ x ∈ src, Fr s x) : ∀ (f i : Nat) (d q : List Int), s.size ≤ i + f → Out (Adj a s) s.size src i d q →
  ∃ r K, (∀ k, K ≤ k → impl_StepsFrom.l1 k d q (i : Int) a b s = some r) ∧ Lab (Adj a s) s.size src r
 | f, i, d, q, hf, hO => by
  have hs := Gok_size hG
  have hA : ∀ c x, Adj a s c x → 0 ≤ x ∧ x < (s.size : Int) := fun c x h => Fr_lt h.2.1
  have hcnt := hO.qu.cnt
  have hle := hO.le
  by_cases hi : i < q.length
  ·obtain ⟨c0, c1, c2⟩ := hO.qu.rng i hi
   have hc : Fr s (rd q (i : Int)) := by
    by_cases hz : rd d (rd q (i : Int)) = 0
    ·exact hfr _ ((hO.part.zero _ c0 c1).mp hz)
    ·obtain ⟨b', _, _, _, h4⟩ := hO.part.back _ c0 c1 (by omega)
     exact h4.2.1
   obtain ⟨ns, K1, h1, h2, h3⟩ := implAround_ev a b s hG _ hc
   obtain ⟨d', q', h4, h5⟩ := impl_l2 (Adj a s) a b s s.size hs hA src _ i ns h2 h3 ns.length 0 d q (by omega) ⟨hO.part, hO.qu, hi, rfl, hO.near hi, hO.clo⟩ (fun j hj => absurd hj (by omega))
   cases f with
   | zero => exfalso; omega
   | succ f =>
    obtain ⟨r, K2, h6, h7⟩ := impl_l1 a b s hG src hfr f (i + 1) d' q' (by omega) h4
    refine ⟨r, K1 + K2 + ns.length + 2, fun k hk => ?_, h7⟩
    obtain ⟨k, rfl⟩ : ∃ m, k = m + ns.length + 1 + 1 := ⟨k - ns.length - 2, by omega⟩
    rw [impl_StepsFrom.l1, if_pos (by omega), if_pos (by omega), h1 _ (by omega), Option.bind_some]
    have := h5 k
    rw [show ((0 : Nat) : Int) = 0 from rfl] at this
    rw [this]
    exact h6 k (by omega)
  ·refine ⟨d, 1, fun k hk => ?_, hO.part, ?_⟩
   ·obtain ⟨k, rfl⟩ : ∃ m, k = m + 1 := ⟨k - 1, by omega⟩
    rw [impl_StepsFrom.l1, if_neg (by omega)]
   ·intro c h0 h1 h2
    obtain ⟨j, hj, ej⟩ := (mem_rd q c).mp (hO.qu.all c h0 h1 h2)
    rw [← ej]
    exact hO.clo j (by omega)
theorem hof_false (a b : Int) (s : ByteArray) (src : List Int) (hfr : ∀ x ∈ src, Fr s x) : hof_StepsFrom.f src a b s = some false := by
 unfold hof_StepsFrom.f
 congr 1
 rw [List.any_eq_false]
 intro x hx
 obtain ⟨h0, h1, h2⟩ := hfr x hx
 simp [hof_StepsFrom.p, h0, h1, h2]
theorem implSteps_ev (a b : Int) (s : ByteArray) (hG : Gok a b s) (src : List Int) (hlen : src.length ≤ 1048576) (hfr : ∀ x ∈ src, Fr s x) : ∃ r K, (∀ k, K ≤ k → impl_StepsFrom.f k a b s src = some r) ∧ Lab (Adj a s) s.size src r := by
 have hs := Gok_size hG
 obtain ⟨g0, K0, h0, q0⟩ := gridOk_ev a b s (by omega)
 obtain rfl := q0.mpr hG
 have hp0 := Part_init (Adj a s) s.size
 obtain ⟨d, q, h1, h2, h3, h4⟩ := impl_l0 (Adj a s) a b s s.size hs src hlen (fun x hx => Fr_lt (hfr x hx)) src.length 0 (List.replicate s.size (-1)) [] (by omega) hp0 (by
  intro c c0 c1
  have := hp0.low c c0 c1
  by_cases hc : 0 ≤ rd (List.replicate s.size (-1)) c
  ·exact absurd ((Qu_init s.size).all c c0 c1 hc) (by simp)
  ·omega) (Qu_init s.size)
 have hO : Out (Adj a s) s.size src 0 d q := by
  refine ⟨h1, h3, Nat.zero_le _, ?_, fun j hj => absurd hj (by omega)⟩
  intro hi j hj
  obtain ⟨c0, c1, c2⟩ := h3.rng 0 hi
  obtain ⟨e0, e1, e2⟩ := h3.rng j hj
  have := h2 _ e0 e1
  omega
 obtain ⟨r, K1, h5, h6⟩ := impl_l1 a b s hG src hfr s.size 0 d q (by omega) hO
 refine ⟨r, K0 + K1 + src.length + 2, fun k hk => ?_, h6⟩
 obtain ⟨k, rfl⟩ : ∃ m, k = m + src.length + 1 + 1 := ⟨k - src.length - 2, by omega⟩
 unfold impl_StepsFrom.f
 rw [(h0 _ (by omega)).2, Option.bind_some, if_pos rfl, hof_false a b s src hfr, Option.bind_some, impl_StepsFrom.j0, if_neg (by decide)]
 have hrep : slices_Repeat_int_int.f [(-1)] (s.size : Int) = some (List.replicate s.size (-1)) := by
  unfold slices_Repeat_int_int.f
  rw [if_pos ⟨rfl, by omega, by omega⟩, Int.toNat_natCast]
  rfl
 rw [hrep, Option.bind_some]
 have := h4 k
 rw [show ((0 : Nat) : Int) = 0 from rfl] at this
 rw [this]
 exact h5 k (by omega)
structure Lv (A : Int → Int → Prop) (n : Nat) (src : List Int) (e : Nat) (c : Int) (d : List Int) : Prop where
 part : Part A n src d
 top : ∀ y : Int, 0 ≤ y → y < n → rd d y ≤ e + 1
 lo : ∀ y : Int, 0 ≤ y → y < n → 0 ≤ rd d y → rd d y < e → Clo A d y
 same : ∀ y : Int, 0 ≤ y → y < n → y < c → rd d y = e → Clo A d y
theorem Lv.step {A : Int → Int → Prop} {n : Nat} {src : List Int} {e : Nat} {c : Int} {d : List Int} (hA : ∀ c x, A c x → 0 ≤ x ∧ x < (n : Int)) (h : Lv A n src e c d) (c0 : 0 ≤ c) (c1 : c < n) (hc : rd d c = e) {x : Int} (hx : A c x) (hneg : rd d x < 0) :
  Lv A n src e c (d.set x.toNat ((e : Int) + 1)) ∧ rd (d.set x.toNat ((e : Int) + 1)) x = (e : Int) + 1 ∧ ∀ y : Int, 0 ≤ y → y ≠ x → rd (d.set x.toNat ((e : Int) + 1)) y = rd d y := by
 obtain ⟨x0, x1⟩ := hA c x hx
 have hl := h.part.len
 have e1 : rd (d.set x.toNat ((e : Int) + 1)) x = (e : Int) + 1 := rd_put1 d x _ x0 (by omega)
 have e2 : ∀ y : Int, 0 ≤ y → y ≠ x → rd (d.set x.toNat ((e : Int) + 1)) y = rd d y := fun y hy hne => rd_put2 d x _ y x0 hy hne
 have hp := h.part.step c0 c1 x0 x1 hx (by omega) hneg
 rw [hc] at hp
 refine ⟨⟨hp, ?_, ?_, ?_⟩, e1, e2⟩
 ·intro y y0 y1
  by_cases ey : y = x
  ·rw [ey, e1]; exact Int.le_refl _
  ·rw [e2 y y0 ey]; exact h.top y y0 y1
 ·intro y y0 y1
  by_cases ey : y = x
  ·rw [ey, e1]; intro _ h2; omega
  ·rw [e2 y y0 ey]
   intro h1 h2
   exact (h.lo y y0 y1 h1 h2).step n hA _ x0 y0 h1 hneg
 ·intro y y0 y1 y2
  by_cases ey : y = x
  ·rw [ey, e1]; intro h2; omega
  ·rw [e2 y y0 ey]
   intro h2
   exact (h.same y y0 y1 y2 h2).step n hA _ x0 y0 (by omega) hneg
theorem Lv.next {A : Int → Int → Prop} {n : Nat} {src : List Int} {e : Nat} {c : Int} {d : List Int} (h : Lv A n src e c d) (hc : rd d c = e → Clo A d c) : Lv A n src e (c + 1) d := by
 refine ⟨h.part, h.top, h.lo, ?_⟩
 intro y y0 y1 y2 h2
 by_cases ey : y = c
 ·rw [ey] at h2 ⊢; exact hc h2
 ·exact h.same y y0 y1 (by omega) h2
theorem spec_l4 (A : Int → Int → Prop) (a b : Int) (s : ByteArray) (n : Nat) (hn : n ≤ 64) (hA : ∀ c x, A c x → 0 ≤ x ∧ x < (n : Int)) (src : List Int) (e : Nat) (he : e ≤ 64) (c : Nat) (hc : c < n) (ns : List Int) (hns : ∀ x, x ∈ ns ↔ A c x) (hnl : ns.length ≤ 4) :
  ∀ (r m : Nat) (d : List Int), m + r = ns.length → Lv A n src e c d → rd d (c : Int) = e → (∀ j : Nat, j < m → 0 ≤ rd d (rd ns (j : Int)) ∧ rd d (rd ns (j : Int)) ≤ (e : Int) + 1) →
  ∃ d', Lv A n src e ((c : Int) + 1) d' ∧ ∀ k, spec_StepsFrom.l4 (k + r + 1) d (e : Int) (c : Int) ns (m : Int) a b s = spec_StepsFrom.l3 k d' (e : Int) ((c + 1 : Nat) : Int) a b s
 | 0, m, d, hm, hL, hce, hnb => by
  refine ⟨d, hL.next (fun _ => ?_), fun k => ?_⟩
  ·intro x hx
   obtain ⟨j, hj, ej⟩ := (mem_rd ns x).mp ((hns x).mpr hx)
   rw [← ej, hce]
   exact hnb j (by omega)
  ·rw [spec_StepsFrom.l4, if_neg (by omega), wS c (by omega)]
 | r + 1, m, d, hm, hL, hce, hnb => by
  obtain ⟨x, ex⟩ : ∃ x, x = rd ns (m : Int) := ⟨_, rfl⟩
  have hx : A c x := (hns x).mp (by rw [ex, rd_get ns m (by omega)]; exact List.getElem_mem _)
  obtain ⟨x0, x1⟩ := hA c x hx
  have hl := hL.part.len
  have hk : ∀ k : Nat, k + (r + 1) + 1 = (k + r + 1) + 1 := fun k => by omega
  have d1 : (m : Int) < (ns.length : Int) := by omega
  have d2 : (0 : Int) ≤ (m : Int) := by omega
  have d3 : x < (d.length : Int) := by omega
  by_cases hneg : rd d x < 0
  ·obtain ⟨hL', e1, e2⟩ := hL.step hA (by omega) (by omega) hce hx hneg
   obtain ⟨d', h1, h2⟩ := spec_l4 A a b s n hn hA src e he c hc ns hns hnl r (m + 1) _ (by omega) hL' (by
    rw [e2 c (by omega) (by intro ec; rw [← ec] at hneg; omega)]; exact hce) (by
    intro j hj
    by_cases ej : j = m
    ·rw [ej, ← ex, e1]; exact ⟨by omega, Int.le_refl _⟩
    ·obtain ⟨g1, g2⟩ := hnb j (by omega)
     have hjx : A c (rd ns (j : Int)) := (hns _).mp (by rw [rd_get ns j (by omega)]; exact List.getElem_mem _)
     rw [e2 _ (hA _ _ hjx).1 (by intro ee; rw [ee] at g1; omega)]
     exact ⟨g1, g2⟩)
   refine ⟨d', h1, fun k => ?_⟩
   rw [hk, spec_StepsFrom.l4, ← ex, if_pos d1, if_pos d2, if_pos x0, if_pos d3, if_pos hneg, wS m (by omega), w64 (x := (e : Int) + 1) (by omega) (by omega)]
   exact h2 k
  ·have ht := hL.top x x0 x1
   obtain ⟨d', h1, h2⟩ := spec_l4 A a b s n hn hA src e he c hc ns hns hnl r (m + 1) d (by omega) hL hce (by
    intro j hj
    by_cases ej : j = m
    ·rw [ej, ← ex]; exact ⟨by omega, ht⟩
    ·exact hnb j (by omega))
   refine ⟨d', h1, fun k => ?_⟩
   rw [hk, spec_StepsFrom.l4, ← ex, if_pos d1, if_pos d2, if_pos x0, if_pos d3, if_neg hneg, wS m (by omega)]
   exact h2 k
theorem lab_free {a : Int} {s : ByteArray} {src d : List Int} (h : Part (Adj a s) s.size src d) (hfr : ∀ x ∈ src, Fr s x) (c : Int) (c0 : 0 ≤ c) (c1 : c < (s.size : Int)) (hc : 0 ≤ rd d c) : Fr s c := by
 by_cases hz : rd d c = 0
 ·exact hfr _ ((h.zero _ c0 c1).mp hz)
 ·obtain ⟨b', _, _, _, h4⟩ := h.back _ c0 c1 (by omega)
  exact h4.2.1
theorem spec_l3 (a b : Int) (s : ByteArray) (hG : Gok a b s) (src : List Int) (hfr : ∀ x ∈ src, Fr s x) (e : Nat) (he : e ≤ 64) : ∀ (r c : Nat) (d : List Int), c + r = s.size → Lv (Adj a s) s.size src e c d →
  ∃ d' K0 K1, Lv (Adj a s) s.size src e (s.size : Int) d' ∧ ∀ k, K1 ≤ k → spec_StepsFrom.l3 (k + K0) d (e : Int) (c : Int) a b s = spec_StepsFrom.l2 k d' ((e + 1 : Nat) : Int) a b s
 | 0, c, d, hc, hL => by
  obtain rfl : c = s.size := by omega
  refine ⟨d, 1, 0, hL, fun k _ => ?_⟩
  rw [spec_StepsFrom.l3, if_neg (by omega), wS e (by omega)]
 | r + 1, c, d, hc, hL => by
  have hs := Gok_size hG
  have hA : ∀ c x, Adj a s c x → 0 ≤ x ∧ x < (s.size : Int) := fun c x h => Fr_lt h.2.1
  have hl := hL.part.len
  have d1 : (c : Int) < (s.size : Int) := by omega
  have d2 : (0 : Int) ≤ (c : Int) := by omega
  have d3 : (c : Int) < (d.length : Int) := by omega
  by_cases hce : rd d (c : Int) = e
  ·obtain ⟨ns, KA, h1, h2, h3⟩ := specAround_ev a b s hG _ (lab_free hL.part hfr c d2 d1 (by omega))
   obtain ⟨d', h4, h5⟩ := spec_l4 (Adj a s) a b s s.size hs hA src e he c (by omega) ns h2 h3 ns.length 0 d (by omega) hL hce (fun j hj => absurd hj (by omega))
   obtain ⟨d2', K0, K1, h6, h7⟩ := spec_l3 a b s hG src hfr e he r (c + 1) d' (by omega) h4
   refine ⟨d2', K0 + ns.length + 1 + 1, K1 + KA, h6, fun k hk => ?_⟩
   rw [show k + (K0 + ns.length + 1 + 1) = (k + K0 + ns.length + 1) + 1 by omega, spec_StepsFrom.l3, if_pos d1, if_pos d2, if_pos d3, if_pos hce, h1 _ (by omega), Option.bind_some]
   have h8 := h5 (k + K0)
   rw [show ((0 : Nat) : Int) = 0 from rfl] at h8
   rw [h8]
   exact h7 k (by omega)
  ·obtain ⟨d2', K0, K1, h6, h7⟩ := spec_l3 a b s hG src hfr e he r (c + 1) d (by omega) (hL.next (fun h => absurd h hce))
   refine ⟨d2', K0 + 1, K1, h6, fun k hk => ?_⟩
   rw [show k + (K0 + 1) = (k + K0) + 1 by omega, spec_StepsFrom.l3, if_pos d1, if_pos d2, if_pos d3, if_neg hce, wS c (by omega)]
   exact h7 k hk
theorem spec_l2 (a b : Int) (s : ByteArray) (hG : Gok a b s) (src : List Int) (hfr : ∀ x ∈ src, Fr s x) : ∀ (r e : Nat) (d : List Int), e + r = s.size → Part (Adj a s) s.size src d → (∀ y : Int, 0 ≤ y → y < (s.size : Int) → rd d y ≤ e) → (∀ y : Int, 0 ≤ y → y < (s.size : Int) → 0 ≤ rd d y → rd d y < e → Clo (Adj a s) d y) →
  ∃ v K, (∀ k, K ≤ k → spec_StepsFrom.l2 k d (e : Int) a b s = some v) ∧ Lab (Adj a s) s.size src v
 | 0, e, d, he, hp, ht, hlo => by
  refine ⟨d, 1, fun k hk => ?_, hp, ?_⟩
  ·obtain ⟨k, rfl⟩ : ∃ m, k = m + 1 := ⟨k - 1, by omega⟩
   rw [spec_StepsFrom.l2, if_neg (by omega)]
  ·intro c h0 h1 h2
   have := hp.lt c h0 h1
   exact hlo c h0 h1 h2 (by omega)
 | r + 1, e, d, he, hp, ht, hlo => by
  have hs := Gok_size hG
  obtain ⟨d', K0, K1, h1, h2⟩ := spec_l3 a b s hG src hfr e (by omega) s.size 0 d (by omega) ⟨hp, fun y y0 y1 => by have := ht y y0 y1; omega, hlo, fun y y0 y1 y2 _ => by omega⟩
  obtain ⟨v, K2, h3, h4⟩ := spec_l2 a b s hG src hfr r (e + 1) d' (by omega) h1.part (fun y y0 y1 => by have := h1.top y y0 y1; omega) (fun y y0 y1 g1 g2 => by
   by_cases hy : rd d' y = e
   ·exact h1.same y y0 y1 y1 hy
   ·exact h1.lo y y0 y1 g1 (by omega))
  refine ⟨v, K0 + K1 + K2 + 1, fun k hk => ?_, h4⟩
  obtain ⟨k, rfl⟩ : ∃ m, k = (m + K0) + 1 := ⟨k - K0 - 1, by omega⟩
  rw [spec_StepsFrom.l2, if_pos (by omega)]
  have h5 := h2 k (by omega)
  rw [show ((0 : Nat) : Int) = 0 from rfl] at h5
  rw [h5]
  exact h3 k (by omega)
theorem spec_l1 (a b : Int) (s : ByteArray) (hs : s.size ≤ 64) (src : List Int) (hlen : src.length ≤ 1048576) : ∀ (r i : Nat) (acc : List Int), i + r = s.size → acc.length = i → (∀ j : Nat, j < i → rd acc (j : Int) = if (j : Int) ∈ src then 0 else -1) →
  ∃ d, d.length = s.size ∧ (∀ j : Nat, j < s.size → rd d (j : Int) = if (j : Int) ∈ src then 0 else -1) ∧ ∀ k, src.length + 1 ≤ k → spec_StepsFrom.l1 (k + r + 1) src acc (i : Int) a b s = spec_StepsFrom.l2 k d 0 a b s
 | 0, i, acc, hi, hl, h => by
  obtain rfl : i = s.size := by omega
  refine ⟨acc, hl, h, fun k _ => ?_⟩
  rw [spec_StepsFrom.l1, if_neg (by omega)]
 | r + 1, i, acc, hi, hl, h => by
  obtain ⟨v, ev⟩ : ∃ v : Int, v = if (i : Int) ∈ src then 0 else -1 := ⟨_, rfl⟩
  obtain ⟨d, h1, h2, h3⟩ := spec_l1 a b s hs src hlen r (i + 1) (acc ++ [v]) (by omega) (by simp [hl]) (by
   intro j hj
   by_cases e : j = i
   ·rw [e, ← hl, rd_app2, ev, hl]
   ·rw [rd_app1 acc v j (by omega)]; exact h j (by omega))
  refine ⟨d, h1, h2, fun k hk => ?_⟩
  rw [show k + (r + 1) + 1 = (k + r + 1) + 1 by omega, spec_StepsFrom.l1, if_pos (by omega), has_eq src (i : Int) (by omega) _ (by omega), Option.bind_some]
  by_cases hm : (i : Int) ∈ src
  ·rw [if_pos hm] at ev
   rw [decide_eq_true hm, if_pos rfl, if_pos (by omega), wS i (by omega), show acc ++ [0] = acc ++ [v] by rw [ev]]
   exact h3 k hk
  ·rw [if_neg hm] at ev
   rw [decide_eq_false hm, if_neg (by decide), if_pos (by omega), wS i (by omega), show acc ++ [-1] = acc ++ [v] by rw [ev]]
   exact h3 k hk
theorem spec_l0 (a b : Int) (s : ByteArray) (hG : Gok a b s) (src : List Int) (hlen : src.length ≤ 1048576) (hfr : ∀ x ∈ src, Fr s x) : ∀ (r i : Nat), i + r = src.length → ∃ K, ∀ k, K ≤ k → spec_StepsFrom.l0 (k + r + 1) src [] (i : Int) a b s = spec_StepsFrom.l1 k src [] 0 a b s
 | 0, i, hi => by
  refine ⟨0, fun k _ => ?_⟩
  rw [spec_StepsFrom.l0, if_neg (by omega)]
 | r + 1, i, hi => by
  have hs := Gok_size hG
  obtain ⟨g, K1, h1, q1⟩ := specFreeAt_ev a b s (by omega) (rd src (i : Int))
  obtain rfl := q1.mpr ⟨hG, hfr _ (by rw [rd_get src i (by omega)]; exact List.getElem_mem _)⟩
  obtain ⟨K2, h2⟩ := spec_l0 a b s hG src hlen hfr r (i + 1) (by omega)
  refine ⟨K1 + K2, fun k hk => ?_⟩
  rw [show k + (r + 1) + 1 = (k + r + 1) + 1 by omega, spec_StepsFrom.l0, if_pos (by omega), if_pos (by omega), h1 _ (by omega), Option.bind_some, if_pos rfl, wS i (by omega)]
  exact h2 k (by omega)
theorem specSteps_ev (a b : Int) (s : ByteArray) (hG : Gok a b s) (src : List Int) (hlen : src.length ≤ 1048576) (hfr : ∀ x ∈ src, Fr s x) : ∃ r K, (∀ k, K ≤ k → spec_StepsFrom.f k a b s src = some r) ∧ Lab (Adj a s) s.size src r := by
 have hs := Gok_size hG
 obtain ⟨g0, K0, h0, q0⟩ := gridOk_ev a b s (by omega)
 obtain rfl := q0.mpr hG
 obtain ⟨K1, h1⟩ := spec_l0 a b s hG src hlen hfr src.length 0 (by omega)
 obtain ⟨d, h2, h3, h4⟩ := spec_l1 a b s hs src hlen s.size 0 [] (by omega) rfl (fun j hj => absurd hj (by omega))
 have h3' : ∀ c : Int, 0 ≤ c → c < (s.size : Int) → rd d c = if c ∈ src then 0 else -1 := by
  intro c c0 c1
  obtain ⟨j, rfl⟩ := Int.eq_ofNat_of_zero_le c0
  exact h3 j (by omega)
 have hv : ∀ c : Int, 0 ≤ c → c < (s.size : Int) → (rd d c = 0 ∨ rd d c = -1) ∧ (rd d c = 0 ↔ c ∈ src) := by
  intro c c0 c1
  rw [h3' c c0 c1]
  by_cases hm : c ∈ src
  ·rw [if_pos hm]; simp [hm]
  ·rw [if_neg hm]; simp [hm]
 have hp : Part (Adj a s) s.size src d := ⟨h2, fun c c0 c1 => by have := (hv c c0 c1).1; omega, fun c c0 c1 => (hv c c0 c1).2, fun c c0 c1 hpos => by have := (hv c c0 c1).1; omega⟩
 obtain ⟨v, K2, h5, h6⟩ := spec_l2 a b s hG src hfr s.size 0 d (by omega) hp (fun c c0 c1 => by have := (hv c c0 c1).1; omega) (fun c c0 c1 g1 g2 => by omega)
 refine ⟨v, K0 + K1 + K2 + src.length + 1 + s.size + 1 + src.length + 1, fun k hk => ?_, h6⟩
 unfold spec_StepsFrom.f
 rw [Option.bind_some, (h0 _ (by omega)).1, Option.bind_some, if_pos rfl]
 obtain ⟨k, rfl⟩ : ∃ m, k = ((m + s.size + 1) + src.length + 1) := ⟨k - s.size - 1 - src.length - 1, by omega⟩
 have h7 := h1 (k + s.size + 1) (by omega)
 have h8 := h4 k (by omega)
 rw [show ((0 : Nat) : Int) = 0 from rfl] at h7 h8
 rw [h7, h8]
 exact h5 k (by omega)
end Go.Proofs.Ytmdkfmbgddhjcaa.Pure
/- Cells that can be reached: the labels tell them; neighbours are neighbours of each other. -/
namespace Go.Proofs.Ytmdkfmbgddhjcaa.Pure
open Go.RowKit Go.Proofs.Ytmdkfmbgddhjcaa.Q Go.Proofs.YtmdkfmbgddhjcaaW.PrintWords Go.Proofs.YtmdkfmbgddhjcaaW.PrintLast
inductive Conn (A : Int → Int → Prop) (c : Int) : Int → Prop where
 | refl : Conn A c c
 | step {x y : Int} : Conn A c x → A x y → Conn A c y
theorem Conn.trans {A : Int → Int → Prop} {a b c : Int} (h : Conn A a b) (h2 : Conn A b c) : Conn A a c := by
 induction h2 with
 | refl => exact h
 | step _ hA ih => exact Conn.step ih hA
theorem Conn.symm {A : Int → Int → Prop} (hs : ∀ x y, A x y → A y x) {a b : Int} (h : Conn A a b) : Conn A b a := by
 induction h with
 | refl => exact Conn.refl
 | step _ hA ih => exact Conn.trans (Conn.step Conn.refl (hs _ _ hA)) ih
theorem Lab.to_conn {A : Int → Int → Prop} {n : Nat} {h : Int} {d : List Int} (hL : Lab A n [h] d) : ∀ (e : Nat) (c : Int), 0 ≤ c → c < n → rd d c = e → Conn A h c
 | 0, c, h0, h1, hc => by
  have := (hL.1.zero c h0 h1).mp hc
  rw [List.mem_singleton] at this
  subst this
  exact Conn.refl
 | e + 1, c, h0, h1, hc => by
  obtain ⟨b, b0, b1, b2, b3⟩ := hL.1.back c h0 h1 (by omega)
  exact Conn.step (Lab.to_conn hL e b b0 b1 (by omega)) b3
theorem Lab.of_conn {A : Int → Int → Prop} {n : Nat} {h : Int} {d : List Int} (hA : ∀ c x, A c x → 0 ≤ x ∧ x < (n : Int)) (h0 : 0 ≤ h) (h1 : h < n) (hL : Lab A n [h] d) {c : Int} (hc : Conn A h c) : (0 ≤ c ∧ c < n) ∧ 0 ≤ rd d c := by
 induction hc with
 | refl =>
  have := (hL.1.zero h h0 h1).mpr (List.mem_singleton.mpr rfl)
  exact ⟨⟨h0, h1⟩, by omega⟩
 | step _ hxy ih =>
  exact ⟨hA _ _ hxy, (hL.2 _ ih.1.1 ih.1.2 ih.2 _ hxy).1⟩
theorem Lab.conn_iff {A : Int → Int → Prop} {n : Nat} {h : Int} {d : List Int} (hA : ∀ c x, A c x → 0 ≤ x ∧ x < (n : Int)) (h0 : 0 ≤ h) (h1 : h < n) (hL : Lab A n [h] d) (c : Int) (c0 : 0 ≤ c) (c1 : c < n) : 0 ≤ rd d c ↔ Conn A h c := by
 constructor
 ·intro hc
  obtain ⟨e, he⟩ := Int.eq_ofNat_of_zero_le hc
  exact Lab.to_conn hL e c c0 c1 he
 ·intro hc
  exact (Lab.of_conn hA h0 h1 hL hc).2
theorem mod_pred (a c : Int) (ha : 0 < a) (h : 0 < c % a) : (c - 1) % a = c % a - 1 := by
 obtain ⟨e, h0, h1⟩ := (Int.ediv_emod_unique (a := c) (b := a) (r := c % a) (q := c / a) ha).mp ⟨rfl, rfl⟩
 exact ((Int.ediv_emod_unique ha).mpr (show (c % a - 1) + a * (c / a) = c - 1 ∧ 0 ≤ c % a - 1 ∧ c % a - 1 < a from ⟨by omega, by omega, by omega⟩)).2
theorem mod_succ (a c : Int) (ha : 0 < a) (h : c % a < a - 1) : (c + 1) % a = c % a + 1 := by
 obtain ⟨e, h0, h1⟩ := (Int.ediv_emod_unique (a := c) (b := a) (r := c % a) (q := c / a) ha).mp ⟨rfl, rfl⟩
 exact ((Int.ediv_emod_unique ha).mpr (show (c % a + 1) + a * (c / a) = c + 1 ∧ 0 ≤ c % a + 1 ∧ c % a + 1 < a from ⟨by omega, by omega, by omega⟩)).2
theorem Adj_symm (a : Int) (ha : 0 < a) (s : ByteArray) (c x : Int) (h : Adj a s c x) : Adj a s x c := by
 obtain ⟨h1, h2, h3⟩ := h
 refine ⟨h2, h1, ?_⟩
 rcases h3 with e | ⟨e, hm⟩ | ⟨e, hm⟩ | e
 ·exact .inr (.inr (.inr (by omega)))
 ·refine .inr (.inr (.inl ⟨by omega, ?_⟩))
  rw [e, mod_pred a c ha hm]
  have := Int.emod_lt_of_pos c ha
  omega
 ·refine .inr (.inl ⟨by omega, ?_⟩)
  rw [e, mod_succ a c ha hm]
  have := Int.emod_nonneg c (show a ≠ 0 by omega)
  omega
 ·exact .inl (by omega)
theorem Adj_in (a : Int) (s : ByteArray) : ∀ c x, Adj a s c x → 0 ≤ x ∧ x < (s.size : Int) := fun _ _ h => Fr_lt h.2.1
end Go.Proofs.Ytmdkfmbgddhjcaa.Pure
/- Whether a cell is free: what the program and the reference answer. -/
namespace Go.Proofs.Ytmdkfmbgddhjcaa.Pure
open Go.RowKit Go.Proofs.Ytmdkfmbgddhjcaa.Q Go.Proofs.YtmdkfmbgddhjcaaW.PrintWords Go.Proofs.YtmdkfmbgddhjcaaW.PrintLast
theorem implFreeAt_ev (a b : Int) (s : ByteArray) (hs : s.size ≤ 1048576) (c : Int) : ∃ g K, (∀ k, K ≤ k → spec_FreeAt.f k a b s c = some g ∧ impl_FreeAt.f k a b s c = some g) ∧ (g = true ↔ Gok a b s ∧ Fr s c) := by
 obtain ⟨g, K, h, hg⟩ := gridOk_ev a b s hs
 cases g with
 | false =>
  refine ⟨false, K, fun k hk => ?_, ⟨fun h => (by cases h), fun h2 => absurd (hg.mpr h2.1) (by decide)⟩⟩
  unfold spec_FreeAt.f impl_FreeAt.f
  rw [(h k hk).1, (h k hk).2]
  exact ⟨rfl, rfl⟩
 | true =>
  refine ⟨decide (Fr s c), K, fun k hk => ?_, ⟨fun h => ⟨hg.mp rfl, of_decide_eq_true h⟩, fun h => decide_eq_true h.2⟩⟩
  unfold spec_FreeAt.f impl_FreeAt.f
  rw [(h k hk).1, (h k hk).2]
  simp only [Option.bind_some, reduceIte, isFree_eq]
  exact ⟨fr_nest s c, trivial⟩
end Go.Proofs.Ytmdkfmbgddhjcaa.Pure
/- The reference's free cells. -/
namespace Go.Proofs.Ytmdkfmbgddhjcaa.Pure
open Go.RowKit Go.Proofs.Ytmdkfmbgddhjcaa.Q Go.Proofs.YtmdkfmbgddhjcaaW.PrintWords Go.Proofs.YtmdkfmbgddhjcaaW.PrintLast
theorem specFree_l0 (a b : Int) (s : ByteArray) (hs : s.size ≤ 1048576) : ∀ (d i : Nat) (acc : List Int), i + d = min s.size 64 → acc.length ≤ i → ∃ v K, (∀ k, K ≤ k → spec_FreeCells.l0 k acc (i : Int) a b s = some v) ∧ (Gok a b s → v = acc ++ fr s d i) ∧ (¬ Gok a b s → v = acc)
 | 0, i, acc, hi, ha => by
  refine ⟨acc, 2, fun k hk => ?_, by simp [fr], fun _ => rfl⟩
  obtain ⟨k, rfl⟩ : ∃ m, k = m + 2 := ⟨k - 2, by omega⟩
  simp only [spec_FreeCells.l0]
  by_cases c : (i : Int) < (s.size : Int)
  ·rw [if_pos c, decide_eq_false (by omega)]
   simp only [spec_FreeCells.j1, Bool.false_eq_true, reduceIte]
  ·rw [if_neg c]
   simp only [spec_FreeCells.j1, Bool.false_eq_true, reduceIte]
 | d + 1, i, acc, hi, ha => by
  obtain ⟨g, K1, h1, hg⟩ := specFreeAt_ev a b s hs (i : Int)
  have e1 : (i : Int) < (s.size : Int) := by omega
  have e2 : decide ((i : Int) < 64) = true := decide_eq_true (by omega)
  have e9 : wrap64 ((i : Int) + 1) = ((i + 1 : Nat) : Int) := by rw [w64 (by omega) (by omega)]; rfl
  cases g with
  | true =>
   obtain ⟨v, K, h, hv, hw⟩ := specFree_l0 a b s hs d (i + 1) (acc ++ [(i : Int)]) (by omega) (by simp; omega)
   refine ⟨v, K + K1 + 2, fun k hk => ?_, fun hG => ?_, fun hG => absurd (hg.mp rfl).1 hG⟩
   ·obtain ⟨k, rfl⟩ : ∃ m, k = m + 2 := ⟨k - 2, by omega⟩
    simp only [spec_FreeCells.l0]
    rw [if_pos e1, e2]
    simp only [spec_FreeCells.j1, reduceIte]
    rw [h1 k (by omega), Option.bind_some, if_pos rfl, if_pos (by omega), e9]
    exact h k (by omega)
   ·rw [hv hG, fr, if_pos (hg.mp rfl).2]; simp
  | false =>
   obtain ⟨v, K, h, hv, hw⟩ := specFree_l0 a b s hs d (i + 1) acc (by omega) (by omega)
   refine ⟨v, K + K1 + 2, fun k hk => ?_, fun hG => ?_, hw⟩
   ·obtain ⟨k, rfl⟩ : ∃ m, k = m + 2 := ⟨k - 2, by omega⟩
    simp only [spec_FreeCells.l0]
    rw [if_pos e1, e2]
    simp only [spec_FreeCells.j1, reduceIte]
    rw [h1 k (by omega), Option.bind_some, if_neg (by decide), e9]
    exact h k (by omega)
   ·rw [hv hG, fr, if_neg (fun h => absurd (hg.mpr ⟨hG, h⟩) (by decide))]
theorem specFree_ev (a b : Int) (s : ByteArray) (hs : s.size ≤ 1048576) : ∃ K, ∀ k, K ≤ k → spec_FreeCells.f k a b s = some (frees a b s) := by
 obtain ⟨v, K, h, hv, hw⟩ := specFree_l0 a b s hs (min s.size 64) 0 [] (by omega) (by simp)
 refine ⟨K, fun k hk => ?_⟩
 unfold spec_FreeCells.f frees
 have := h k hk
 by_cases hG : Gok a b s
 ·rw [if_pos hG]
  have hsz := Gok_size hG
  rw [hv hG, show min s.size 64 = s.size by omega] at this
  simpa using this
 ·rw [if_neg hG]
  rw [hw hG] at this
  exact this
end Go.Proofs.Ytmdkfmbgddhjcaa.Pure
/- Starts and goals: what the program and the reference ask of them. -/
namespace Go.Proofs.Ytmdkfmbgddhjcaa.Pure
open Go.RowKit Go.Proofs.Ytmdkfmbgddhjcaa.Q Go.Proofs.YtmdkfmbgddhjcaaW.PrintWords Go.Proofs.YtmdkfmbgddhjcaaW.PrintLast
def AscFrom (l : List Int) (i : Nat) : Prop := ∀ j : Nat, i ≤ j → j < l.length → 0 < j → rd l ((j : Int) - 1) < rd l (j : Int)
def FrFrom (s : ByteArray) (l : List Int) (i : Nat) : Prop := ∀ j : Nat, i ≤ j → j < l.length → Fr s (rd l (j : Int))
theorem AscFrom_step (l : List Int) (i : Nat) (hi : i < l.length) : AscFrom l i ↔ (0 < i → rd l ((i : Int) - 1) < rd l (i : Int)) ∧ AscFrom l (i + 1) := by
 constructor
 ·exact fun h => ⟨h i (Nat.le_refl _) hi, fun j h1 => h j (by omega)⟩
 ·rintro ⟨h0, h⟩ j h1 h2 h3
  rcases Nat.eq_or_lt_of_le h1 with e | e
  ·subst e; exact h0 h3
  ·exact h j e h2 h3
theorem FrFrom_step (s : ByteArray) (l : List Int) (i : Nat) (hi : i < l.length) : FrFrom s l i ↔ Fr s (rd l (i : Int)) ∧ FrFrom s l (i + 1) := by
 constructor
 ·exact fun h => ⟨h i (Nat.le_refl _) hi, fun j h1 => h j (by omega)⟩
 ·rintro ⟨h0, h⟩ j h1 h2
  rcases Nat.eq_or_lt_of_le h1 with e | e
  ·subst e; exact h0
  ·exact h j e h2
theorem specCells_l0 (a b : Int) (s : ByteArray) (hs : s.size ≤ 1048576) (hG : Gok a b s) (l : List Int) (hl : l.length ≤ 1048576) : ∀ (d i : Nat), i + d = l.length → ∃ g K, (∀ k, K ≤ k → spec_l10Cells.l0 k l (i : Int) a b s = some g) ∧ (g = true ↔ FrFrom s l i ∧ AscFrom l i)
 | 0, i, hi => by
  refine ⟨true, 1, fun k hk => ?_, ⟨fun _ => ⟨fun j h1 h2 => by omega, fun j h1 h2 => by omega⟩, fun _ => rfl⟩⟩
  obtain ⟨k, rfl⟩ : ∃ m, k = m + 1 := ⟨k - 1, by omega⟩
  simp only [spec_l10Cells.l0]
  rw [if_neg (by omega)]
 | d + 1, i, hi => by
  obtain ⟨g, K, h, hg⟩ := specCells_l0 a b s hs hG l hl d (i + 1) (by omega)
  obtain ⟨q, K1, h1, hq⟩ := specFreeAt_ev a b s hs (rd l (i : Int))
  rw [FrFrom_step s l i (by omega), AscFrom_step l i (by omega)]
  have e9 : wrap64 ((i : Int) + 1) = ((i + 1 : Nat) : Int) := by rw [w64 (by omega) (by omega)]; rfl
  have e8 : wrap64 ((i : Int) - 1) = (i : Int) - 1 := w64 (by omega) (by omega)
  cases q with
  | false =>
   refine ⟨false, K1 + 1, fun k hk => ?_, ⟨fun h => (by cases h), fun h => absurd (hq.mpr ⟨hG, h.1.1⟩) (by decide)⟩⟩
   obtain ⟨k, rfl⟩ : ∃ m, k = m + 1 := ⟨k - 1, by omega⟩
   simp only [spec_l10Cells.l0]
   rw [if_pos (by omega), if_pos (by omega), h1 k (by omega), Option.bind_some, if_neg (by decide)]
  | true =>
   have hfr := (hq.mp rfl).2
   by_cases c : 0 < i
   ·by_cases c2 : rd l ((i : Int) - 1) ≥ rd l (i : Int)
    ·refine ⟨false, K1 + 1, fun k hk => ?_, ⟨fun h => (by cases h), fun h => absurd (h.2.1 c) (by omega)⟩⟩
     obtain ⟨k, rfl⟩ : ∃ m, k = m + 1 := ⟨k - 1, by omega⟩
     simp only [spec_l10Cells.l0]
     rw [if_pos (by omega), if_pos (by omega), h1 k (by omega), Option.bind_some, if_pos rfl, if_pos (by omega), e8, if_pos (by omega), if_pos (by omega), if_pos c2]
    ·refine ⟨g, K1 + K + 1, fun k hk => ?_, by rw [hg]; exact ⟨fun h => ⟨⟨hfr, h.1⟩, ⟨fun _ => by omega, h.2⟩⟩, fun h => ⟨h.1.2, h.2.2⟩⟩⟩
     obtain ⟨k, rfl⟩ : ∃ m, k = m + 1 := ⟨k - 1, by omega⟩
     simp only [spec_l10Cells.l0]
     rw [if_pos (by omega), if_pos (by omega), h1 k (by omega), Option.bind_some, if_pos rfl, if_pos (by omega), e8, if_pos (by omega), if_pos (by omega), if_neg c2, e9]
     exact h k (by omega)
   ·refine ⟨g, K1 + K + 1, fun k hk => ?_, by rw [hg]; exact ⟨fun h => ⟨⟨hfr, h.1⟩, ⟨fun h2 => absurd h2 c, h.2⟩⟩, fun h => ⟨h.1.2, h.2.2⟩⟩⟩
    obtain ⟨k, rfl⟩ : ∃ m, k = m + 1 := ⟨k - 1, by omega⟩
    simp only [spec_l10Cells.l0]
    rw [if_pos (by omega), if_pos (by omega), h1 k (by omega), Option.bind_some, if_pos rfl, if_neg (by omega), e9]
    exact h k (by omega)
theorem implAsc_l0 (l : List Int) (hl : l.length ≤ 1048576) : ∀ (d i : Nat), 1 ≤ i → (i + d = l.length ∨ (d = 0 ∧ l.length ≤ i)) → ∃ g K, (∀ k, K ≤ k → impl_isAscending.l0 k l (i : Int) = some g) ∧ (g = true ↔ AscFrom l i)
 | 0, i, h1, hi => by
  refine ⟨true, 1, fun k hk => ?_, ⟨fun _ j h1 h2 => by omega, fun _ => rfl⟩⟩
  obtain ⟨k, rfl⟩ : ∃ m, k = m + 1 := ⟨k - 1, by omega⟩
  simp only [impl_isAscending.l0]
  rw [if_neg (by omega)]
 | d + 1, i, h1, hi => by
  obtain ⟨g, K, h, hg⟩ := implAsc_l0 l hl d (i + 1) (by omega) (by omega)
  rw [AscFrom_step l i (by omega)]
  have e9 : wrap64 ((i : Int) + 1) = ((i + 1 : Nat) : Int) := by rw [w64 (by omega) (by omega)]; rfl
  have e8 : wrap64 ((i : Int) - 1) = (i : Int) - 1 := w64 (by omega) (by omega)
  by_cases c2 : rd l ((i : Int) - 1) ≥ rd l (i : Int)
  ·refine ⟨false, 1, fun k hk => ?_, ⟨fun h => (by cases h), fun h => absurd (h.1 (by omega)) (by omega)⟩⟩
   obtain ⟨k, rfl⟩ : ∃ m, k = m + 1 := ⟨k - 1, by omega⟩
   simp only [impl_isAscending.l0]
   rw [if_pos (by omega), e8, if_pos (by omega), if_pos (by omega), if_pos (by omega), if_pos c2]
  ·refine ⟨g, K + 1, fun k hk => ?_, by rw [hg]; exact ⟨fun h => ⟨fun _ => by omega, h⟩, fun h => h.2⟩⟩
   obtain ⟨k, rfl⟩ : ∃ m, k = m + 1 := ⟨k - 1, by omega⟩
   simp only [impl_isAscending.l0]
   rw [if_pos (by omega), e8, if_pos (by omega), if_pos (by omega), if_pos (by omega), if_neg c2, e9]
   exact h k (by omega)
theorem AscFrom_one (l : List Int) : AscFrom l 1 ↔ AscFrom l 0 := ⟨fun h j _ h2 h3 => h j (by omega) h2 h3, fun h j _ h2 h3 => h j (by omega) h2 h3⟩
theorem implAsc_ev (l : List Int) (hl : l.length ≤ 1048576) : ∃ g K, (∀ k, K ≤ k → impl_isAscending.f k l = some g) ∧ (g = true ↔ AscFrom l 0) := by
 obtain ⟨D, hD⟩ : ∃ D, 1 + D = l.length ∨ (D = 0 ∧ l.length ≤ 1) := ⟨l.length - 1, by omega⟩
 obtain ⟨g, K, h, hg⟩ := implAsc_l0 l hl D 1 (by omega) hD
 exact ⟨g, K, fun k hk => h k hk, by rw [hg, AscFrom_one]⟩
theorem FrFrom_all (s : ByteArray) (l : List Int) : FrFrom s l 0 ↔ ∀ x ∈ l, Fr s x := by
 constructor
 ·intro h x hx
  obtain ⟨i, hi, e⟩ := List.getElem_of_mem hx
  have := h i (Nat.zero_le _) hi
  rwa [rd_get l i hi, e] at this
 ·intro h j _ hj
  rw [rd_get l j hj]
  exact h _ (List.getElem_mem _)
theorem areFree_ev (a b : Int) (s : ByteArray) (hs : s.size ≤ 1048576) (l : List Int) : ∃ g K, (∀ k, K ≤ k → impl_areFree.f k a b s l = some g) ∧ (g = true ↔ Gok a b s ∧ FrFrom s l 0) := by
 obtain ⟨q, K, h, hq⟩ := gridOk_ev a b s hs
 cases q with
 | false =>
  refine ⟨false, K, fun k hk => ?_, ⟨fun h => (by cases h), fun h => absurd (hq.mpr h.1) (by decide)⟩⟩
  unfold impl_areFree.f
  rw [(h k hk).2, Option.bind_some, if_neg (by decide)]
 | true =>
  refine ⟨!(l.any (hof_areFree.p s)), K, fun k hk => ?_, ?_⟩
  ·unfold impl_areFree.f hof_areFree.f
   rw [(h k hk).2, Option.bind_some, if_pos rfl, Option.bind_some]
  ·rw [FrFrom_all, Bool.not_eq_true', List.any_eq_false]
   have hp : ∀ x, ¬ (hof_areFree.p s x = true) ↔ Fr s x := fun x => by
    unfold hof_areFree.p Fr
    simp
   exact ⟨fun h => ⟨hq.mp rfl, fun x hx => (hp x).mp (h x hx)⟩, fun h x hx => (hp x).mpr (h.2 x hx)⟩
end Go.Proofs.Ytmdkfmbgddhjcaa.Pure
/- Homes, counts, and whether there is enough: the program and the reference answer alike. -/
namespace Go.Proofs.Ytmdkfmbgddhjcaa.Pure
open Go.RowKit Go.Proofs.Ytmdkfmbgddhjcaa.Q Go.Proofs.YtmdkfmbgddhjcaaW.PrintWords Go.Proofs.YtmdkfmbgddhjcaaW.PrintLast
def Hm (a : Int) (s : ByteArray) (c v : Int) : Prop := (0 ≤ v ∧ v < (s.size : Int)) ∧ Conn (Adj a s) c v ∧ ∀ j : Int, 0 ≤ j → j < v → ¬ Conn (Adj a s) c j
theorem Hm.uniq {a : Int} {s : ByteArray} {c v u : Int} (h : Hm a s c v) (h2 : Hm a s c u) : v = u := by
 rcases Int.lt_trichotomy v u with e | e | e
 ·exact absurd h.2.1 (h2.2.2 v h.1.1 e)
 ·exact e
 ·exact absurd h2.2.1 (h.2.2 u h2.1.1 e)
theorem Hm.of_conn {a : Int} (ha : 0 < a) {s : ByteArray} {c x v : Int} (h : Hm a s c v) (hc : Conn (Adj a s) c x) : Hm a s x v :=
 ⟨h.1, (hc.symm (Adj_symm a ha s)).trans h.2.1, fun j h0 h1 hj => h.2.2 j h0 h1 (hc.trans hj)⟩
section
variable (a b : Int) (s : ByteArray) (hs : s.size ≤ 1048576)
theorem stepsLab_ev (hG : Gok a b s) (c : Int) (hc : Fr s c) : ∃ r K, (∀ k, K ≤ k → spec_StepsFrom.f k a b s [c] = some r ∧ impl_StepsFrom.f k a b s [c] = some r) ∧ Lab (Adj a s) s.size [c] r := by
 have hf : ∀ x ∈ [c], Fr s x := fun x hx => by rw [List.mem_singleton.mp hx]; exact hc
 obtain ⟨r1, K1, h1, l1⟩ := implSteps_ev a b s hG [c] (by simp) hf
 obtain ⟨r2, K2, h2, l2⟩ := specSteps_ev a b s hG [c] (by simp) hf
 obtain rfl := Lab.uniq (Adj_in a s) l1 l2
 exact ⟨r1, K1 + K2, fun k hk => ⟨h2 k (by omega), h1 k (by omega)⟩, l1⟩
theorem specHome_l0 (r : List Int) (c : Nat) (hc : c < r.length) (hcs : c ≤ 1048576) (h0 : 0 ≤ rd r (c : Int)) : ∀ (d i : Nat), i + d = c → (∀ j : Nat, j < i → rd r (j : Int) < 0) → ∃ v : Nat, v ≤ c ∧ 0 ≤ rd r (v : Int) ∧ (∀ j : Nat, j < v → rd r (j : Int) < 0) ∧ ∀ k, d < k → spec_HomeOf.l0 k (c : Int) r (i : Int) = some (v : Int)
 | 0, i, hi, hn => by
  obtain rfl : i = c := by omega
  refine ⟨i, Nat.le_refl _, h0, hn, fun k hk => ?_⟩
  obtain ⟨k, rfl⟩ : ∃ m, k = m + 1 := ⟨k - 1, by omega⟩
  rw [spec_HomeOf.l0, if_neg (by omega)]
 | d + 1, i, hi, hn => by
  by_cases e : rd r (i : Int) ≥ 0
  ·refine ⟨i, by omega, e, hn, fun k hk => ?_⟩
   obtain ⟨k, rfl⟩ : ∃ m, k = m + 1 := ⟨k - 1, by omega⟩
   rw [spec_HomeOf.l0, if_pos (by omega), if_pos (by omega), if_pos (by omega), if_pos e]
  ·obtain ⟨v, h1, h2, h3, h4⟩ := specHome_l0 r c hc hcs h0 d (i + 1) (by omega) (fun j hj => by
    by_cases e2 : j = i
    ·subst e2; omega
    ·exact hn j (by omega))
   refine ⟨v, h1, h2, h3, fun k hk => ?_⟩
   obtain ⟨k, rfl⟩ : ∃ m, k = m + 1 := ⟨k - 1, by omega⟩
   rw [spec_HomeOf.l0, if_pos (by omega), if_pos (by omega), if_pos (by omega), if_neg e, show wrap64 ((i : Int) + 1) = ((i + 1 : Nat) : Int) from w64 (by omega) (by omega)]
   exact h4 k (by omega)
include hs
theorem home_ev (c : Int) : ∃ v K, (∀ k, K ≤ k → spec_HomeOf.f k a b s c = some v ∧ impl_HomeOf.f k a b s c = some v) ∧ (Gok a b s ∧ Fr s c → Hm a s c v) ∧ (¬ (Gok a b s ∧ Fr s c) → v = -1) := by
 obtain ⟨g, K1, h1, hg⟩ := implFreeAt_ev a b s hs c
 cases g with
 | false =>
  refine ⟨-1, K1, fun k hk => ?_, fun h => (by have := hg.mpr h; cases this), fun _ => rfl⟩
  unfold spec_HomeOf.f impl_HomeOf.f
  rw [(h1 k hk).1, (h1 k hk).2, Option.bind_some, Option.bind_some, if_neg (by decide), if_neg (by decide)]
  exact ⟨rfl, rfl⟩
 | true =>
  obtain ⟨hG, hF⟩ := hg.mp rfl
  obtain ⟨c0, c1⟩ := Fr_lt hF
  obtain ⟨r, K2, h2, hL⟩ := stepsLab_ev a b s hG c hF
  obtain ⟨m, rfl⟩ := Int.eq_ofNat_of_zero_le c0
  have hlen := hL.1.len
  have hiff := Lab.conn_iff (Adj_in a s) c0 c1 hL
  have h00 : 0 ≤ rd r (m : Int) := (hiff (m : Int) c0 c1).mpr Conn.refl
  obtain ⟨v, v1, v2, v3, v4⟩ := specHome_l0 r m (by omega) (by omega) h00 m 0 (by omega) (fun j hj => absurd hj (Nat.not_lt_zero _))
  have hfind : findI hof_HomeOf.p r = (v : Int) := by
   refine findI_hit hof_HomeOf.p r 0 v (by omega) ?_ (fun j hj => ?_)
   ·unfold hof_HomeOf.p
    rw [← rd_nat]
    exact decide_eq_true v2
   ·unfold hof_HomeOf.p
    rw [← rd_nat]
    exact decide_eq_false (by have := v3 j hj; omega)
  refine ⟨(v : Int), K1 + K2 + m + 1, fun k hk => ?_, fun _ => ⟨⟨by omega, by omega⟩, (hiff (v : Int) (by omega) (by omega)).mp v2, fun j j0 j1 hj => ?_⟩, fun h => absurd ⟨hG, hF⟩ h⟩
  ·unfold spec_HomeOf.f impl_HomeOf.f hof_HomeOf.f
   rw [(h1 k (by omega)).1, (h1 k (by omega)).2, Option.bind_some, Option.bind_some, if_pos rfl, if_pos rfl, (h2 k (by omega)).1, (h2 k (by omega)).2, Option.bind_some, Option.bind_some, Option.bind_some, hfind]
   have := v4 k (by omega)
   rw [show ((0 : Nat) : Int) = 0 from rfl] at this
   exact ⟨this, rfl⟩
  ·obtain ⟨n, rfl⟩ := Int.eq_ofNat_of_zero_le j0
   have := v3 n (by omega)
   have := (hiff (n : Int) j0 (by omega)).mpr hj
   omega
theorem all_l0 (hG : Gok a b s) : ∀ (d i : Nat) (acc : List Int), i + d = s.size → acc.length = i → (∀ j : Nat, j < i → (Fr s (j : Int) → Hm a s (j : Int) (rd acc (j : Int))) ∧ (¬ Fr s (j : Int) → rd acc (j : Int) = -1)) →
  ∃ al K, (∀ k, K ≤ k → spec_l05All.l0 k acc (i : Int) a b s = some al) ∧ al.length = s.size ∧ ∀ j : Nat, j < s.size → (Fr s (j : Int) → Hm a s (j : Int) (rd al (j : Int))) ∧ (¬ Fr s (j : Int) → rd al (j : Int) = -1)
 | 0, i, acc, hi, ha, hj => by
  refine ⟨acc, 1, fun k hk => ?_, by omega, fun j hj2 => hj j (by omega)⟩
  obtain ⟨k, rfl⟩ : ∃ m, k = m + 1 := ⟨k - 1, by omega⟩
  rw [spec_l05All.l0, if_neg (by omega)]
 | d + 1, i, acc, hi, ha, hj => by
  obtain ⟨v, K1, h1, h2, h3⟩ := home_ev a b s hs (i : Int)
  obtain ⟨al, K2, h4, h5, h6⟩ := all_l0 hG d (i + 1) (acc ++ [v]) (by omega) (by simp [ha]) (fun j hj2 => by
   by_cases e : j = i
   ·subst e
    rw [← ha] at h2 h3 ⊢
    rw [rd_app2]
    exact ⟨fun hf => h2 ⟨hG, hf⟩, fun hf => h3 (fun h => hf h.2)⟩
   ·rw [rd_app1 acc v j (by omega)]
    exact hj j (by omega))
  refine ⟨al, K1 + K2 + 1, fun k hk => ?_, h5, h6⟩
  obtain ⟨k, rfl⟩ : ∃ m, k = m + 1 := ⟨k - 1, by omega⟩
  rw [spec_l05All.l0, if_pos (by omega), (h1 k (by omega)).1, Option.bind_some, if_pos (by omega), show wrap64 ((i : Int) + 1) = ((i + 1 : Nat) : Int) from w64 (by omega) (by omega)]
  exact h4 k (by omega)
omit hs in
theorem count_l0 (h : Int) (al r cells : List Int) (hl : cells.length ≤ 1048576) (hal : al.length = s.size) (hr : r.length = s.size) (hx : ∀ x : Int, 0 ≤ x → x < (s.size : Int) → (rd al x = h ↔ 0 ≤ rd r x)) : ∀ (d i : Nat) (n : Int), i + d = cells.length → 0 ≤ n → n ≤ i → ∃ (v : Int) (K : Nat), ∀ k, K ≤ k → spec_CountIn.l0 k h cells al n (i : Int) = some v ∧ impl_CountIn.l0 k r n cells (cells.length : Int) (i : Int) = some v
 | 0, i, n, hi, h0, hn => by
  refine ⟨n, 1, fun k hk => ?_⟩
  obtain ⟨k, rfl⟩ : ∃ m, k = m + 1 := ⟨k - 1, by omega⟩
  rw [spec_CountIn.l0, impl_CountIn.l0, if_neg (by omega), if_neg (by omega)]
  exact ⟨rfl, rfl⟩
 | d + 1, i, n, hi, h0, hn => by
  have e1 : (i : Int) < (cells.length : Int) := by omega
  have e2 : (0 : Int) ≤ (i : Int) := by omega
  obtain ⟨v1, K1, h1⟩ := count_l0 h al r cells hl hal hr hx d (i + 1) n (by omega) h0 (by omega)
  obtain ⟨v2, K2, h2⟩ := count_l0 h al r cells hl hal hr hx d (i + 1) (n + 1) (by omega) (by omega) (by omega)
  have e9 : wrap64 ((i : Int) + 1) = ((i + 1 : Nat) : Int) := w64 (by omega) (by omega)
  have e8 : wrap64 (n + 1) = n + 1 := w64 (by omega) (by omega)
  have hK : ∀ K k, K + 1 ≤ k → ∃ m, k = m + 1 ∧ K ≤ m := fun K k hk => ⟨k - 1, by omega, by omega⟩
  by_cases c1 : rd cells (i : Int) ≥ 0
  ·by_cases c2 : rd cells (i : Int) < (s.size : Int)
   ·have c3 : rd cells (i : Int) < (al.length : Int) := by rw [hal]; exact c2
    have c4 : rd cells (i : Int) < (r.length : Int) := by rw [hr]; exact c2
    by_cases c5 : 0 ≤ rd r (rd cells (i : Int))
    ·have c6 := (hx _ c1 c2).mpr c5
     refine ⟨v2, K2 + 1, fun k hk => ?_⟩
     obtain ⟨k, rfl, hk2⟩ := hK K2 k hk
     rw [spec_CountIn.l0, impl_CountIn.l0, if_pos e1, if_pos e2, if_pos c1, if_pos c3, if_pos c1, if_pos c6, if_pos e1, if_pos e2, if_pos e1, if_pos c1, if_pos c4, if_pos c1, if_pos c5, e8, e9]
     exact h2 k hk2
    ·have c6 : ¬ rd al (rd cells (i : Int)) = h := fun e => c5 ((hx _ c1 c2).mp e)
     refine ⟨v1, K1 + 1, fun k hk => ?_⟩
     obtain ⟨k, rfl, hk2⟩ := hK K1 k hk
     rw [spec_CountIn.l0, impl_CountIn.l0, if_pos e1, if_pos e2, if_pos c1, if_pos c3, if_pos c1, if_neg c6, if_pos e1, if_pos e2, if_pos e1, if_pos c1, if_pos c4, if_pos c1, if_neg c5, e9]
     exact h1 k hk2
   ·have c3 : ¬ rd cells (i : Int) < (al.length : Int) := by rw [hal]; exact c2
    have c4 : ¬ rd cells (i : Int) < (r.length : Int) := by rw [hr]; exact c2
    refine ⟨v1, K1 + 1, fun k hk => ?_⟩
    obtain ⟨k, rfl, hk2⟩ := hK K1 k hk
    rw [spec_CountIn.l0, impl_CountIn.l0, if_pos e1, if_pos e2, if_pos c1, if_neg c3, if_pos e1, if_pos e2, if_pos e1, if_pos c1, if_neg c4, e9]
    exact h1 k hk2
  ·refine ⟨v1, K1 + 1, fun k hk => ?_⟩
   obtain ⟨k, rfl, hk2⟩ := hK K1 k hk
   rw [spec_CountIn.l0, impl_CountIn.l0, if_pos e1, if_pos e2, if_neg c1, if_pos e1, if_pos e2, if_pos e1, if_neg c1, e9]
   exact h1 k hk2
theorem count_ev (hG : Gok a b s) (h : Int) (cells : List Int) (hl : cells.length ≤ 1048576) : ∃ (v : Int) (K : Nat), ∀ k, K ≤ k → spec_CountIn.f k a b s h cells = some v ∧ impl_CountIn.f k a b s h cells = some v := by
 obtain ⟨g, K0, h0, hg⟩ := gridOk_ev a b s hs
 obtain rfl := hg.mpr hG
 obtain ⟨v0, K1, h1, q1, q2⟩ := home_ev a b s hs h
 have ha : 0 < a := by have := hG.1; omega
 have jS : ∀ k, spec_CountIn.j0 (k + 1) h cells true a b s = some 0 := fun k => by rw [spec_CountIn.j0, if_pos rfl]
 have jI : ∀ k, impl_CountIn.j0 (k + 1) h cells true a b s = some 0 := fun k => by rw [impl_CountIn.j0, if_pos rfl]
 by_cases e : v0 = h
 ·by_cases hneg : h < 0
  ·refine ⟨0, K0 + K1 + 1, fun k hk => ?_⟩
   obtain ⟨k, rfl⟩ : ∃ m, k = m + 1 := ⟨k - 1, by omega⟩
   unfold spec_CountIn.f impl_CountIn.f
   rw [(h0 _ (by omega)).1, Option.bind_some, if_pos rfl, (h1 _ (by omega)).1, (h1 _ (by omega)).2, Option.bind_some, Option.bind_some, if_pos e, if_pos e, decide_eq_true hneg]
   exact ⟨jS k, jI k⟩
  ·have hF : Fr s h := Decidable.byContradiction fun hf => by
    have := q2 (fun x => hf x.2)
    omega
   obtain ⟨c0, c1⟩ := Fr_lt hF
   have hH := q1 ⟨hG, hF⟩
   rw [e] at hH
   obtain ⟨r, K2, h2, hL⟩ := stepsLab_ev a b s hG h hF
   obtain ⟨al, K3, h3, l3, p3⟩ := all_l0 a b s hs hG s.size 0 [] (by omega) rfl (fun j hj => absurd hj (Nat.not_lt_zero _))
   have hiff := Lab.conn_iff (Adj_in a s) c0 c1 hL
   have hx : ∀ x : Int, 0 ≤ x → x < (s.size : Int) → (rd al x = h ↔ 0 ≤ rd r x) := fun x x0 x1 => by
    rw [hiff x x0 x1]
    obtain ⟨m, rfl⟩ := Int.eq_ofNat_of_zero_le x0
    obtain ⟨p1, p2⟩ := p3 m (by omega)
    constructor
    ·intro hv
     have hfr : Fr s (m : Int) := Decidable.byContradiction fun hf => by
      have := p2 hf
      omega
     have := (p1 hfr).2.1
     rw [hv] at this
     exact this.symm (Adj_symm a ha s)
    ·intro hc
     have hfr : Fr s (m : Int) := lab_free hL.1 (fun x hx => by rw [List.mem_singleton.mp hx]; exact hF) (m : Int) x0 x1 ((hiff (m : Int) x0 x1).mpr hc)
     exact Hm.uniq (p1 hfr) (Hm.of_conn ha hH hc)
   obtain ⟨v, K4, h4⟩ := count_l0 s h al r cells hl l3 hL.1.len hx cells.length 0 0 (by omega) (Int.le_refl _) (by omega)
   refine ⟨v, K0 + K1 + K2 + K3 + K4 + 1, fun k hk => ?_⟩
   obtain ⟨k, rfl⟩ : ∃ m, k = m + 1 := ⟨k - 1, by omega⟩
   have h3' := h3 k (by omega)
   have h4' := h4 k (by omega)
   rw [show ((0 : Nat) : Int) = 0 from rfl] at h3' h4'
   unfold spec_CountIn.f impl_CountIn.f
   rw [(h0 _ (by omega)).1, Option.bind_some, if_pos rfl, (h1 _ (by omega)).1, (h1 _ (by omega)).2, Option.bind_some, Option.bind_some, if_pos e, if_pos e, decide_eq_false hneg, spec_CountIn.j0, impl_CountIn.j0, if_neg (by decide), if_neg (by decide), (h2 k (by omega)).2, Option.bind_some]
   unfold spec_l05All.f
   rw [h3', Option.bind_some]
   exact h4'
 ·refine ⟨0, K0 + K1 + 1, fun k hk => ?_⟩
  obtain ⟨k, rfl⟩ : ∃ m, k = m + 1 := ⟨k - 1, by omega⟩
  unfold spec_CountIn.f impl_CountIn.f
  rw [(h0 _ (by omega)).1, Option.bind_some, if_pos rfl, (h1 _ (by omega)).1, (h1 _ (by omega)).2, Option.bind_some, Option.bind_some, if_neg e, if_neg e]
  exact ⟨jS k, jI k⟩
theorem homes_l0 (l : List Int) (hl : l.length ≤ 64) : ∀ (d i : Nat) (acc : List Int), i + d = l.length → acc.length ≤ i → ∃ v K, (∀ k, K ≤ k → spec_Homes.l0 k acc l (i : Int) a b s = some v ∧ impl_Homes.l0 k acc l (l.length : Int) (i : Int) a b s = some v) ∧ v.length ≤ 64
 | 0, i, acc, hi, ha => by
  refine ⟨acc, 1, fun k hk => ?_, by omega⟩
  obtain ⟨k, rfl⟩ : ∃ m, k = m + 1 := ⟨k - 1, by omega⟩
  rw [spec_Homes.l0, impl_Homes.l0, if_neg (by omega), if_neg (by omega)]
  exact ⟨rfl, rfl⟩
 | d + 1, i, acc, hi, ha => by
  have e1 : (i : Int) < (l.length : Int) := by omega
  have e2 : (0 : Int) ≤ (i : Int) := by omega
  have e3 : acc.length < 17592186044416 := by omega
  have e9 : wrap64 ((i : Int) + 1) = ((i + 1 : Nat) : Int) := w64 (by omega) (by omega)
  obtain ⟨x, K1, h1, _⟩ := home_ev a b s hs (rd l (i : Int))
  by_cases c : x = rd l (i : Int)
  ·obtain ⟨v, K2, h2, h3⟩ := homes_l0 l hl d (i + 1) (acc ++ [rd l (i : Int)]) (by omega) (by simp; omega)
   refine ⟨v, K1 + K2 + 1, fun k hk => ?_, h3⟩
   obtain ⟨k, rfl⟩ : ∃ m, k = m + 1 := ⟨k - 1, by omega⟩
   rw [spec_Homes.l0, impl_Homes.l0, if_pos e1, if_pos e2, if_pos e1, if_pos e2, if_pos e1, (h1 k (by omega)).1, (h1 k (by omega)).2, Option.bind_some, Option.bind_some, if_pos c, if_pos c, if_pos e3, if_pos e3, e9]
   exact h2 k (by omega)
  ·obtain ⟨v, K2, h2, h3⟩ := homes_l0 l hl d (i + 1) acc (by omega) (by omega)
   refine ⟨v, K1 + K2 + 1, fun k hk => ?_, h3⟩
   obtain ⟨k, rfl⟩ : ∃ m, k = m + 1 := ⟨k - 1, by omega⟩
   rw [spec_Homes.l0, impl_Homes.l0, if_pos e1, if_pos e2, if_pos e1, if_pos e2, if_pos e1, (h1 k (by omega)).1, (h1 k (by omega)).2, Option.bind_some, Option.bind_some, if_neg c, if_neg c, e9]
   exact h2 k (by omega)
theorem homes_ev : ∃ v K, (∀ k, K ≤ k → spec_Homes.f k a b s = some v ∧ impl_Homes.f k a b s = some v) ∧ v.length ≤ 64 := by
 obtain ⟨K1, h1⟩ := specFree_ev a b s hs
 obtain ⟨K2, h2⟩ := implFree_ev a b s hs
 obtain ⟨v, K3, h3, h4⟩ := homes_l0 a b s hs (frees a b s) (frees_len a b s) (frees a b s).length 0 [] (by omega) (by simp)
 refine ⟨v, K1 + K2 + K3, fun k hk => ?_, h4⟩
 unfold spec_Homes.f impl_Homes.f
 rw [h1 k (by omega), h2 k (by omega), Option.bind_some, Option.bind_some]
 exact h3 k (by omega)
theorem enough_l2 (hG : Gok a b s) (p q hl : List Int) (hp : p.length ≤ 1048576) (hq : q.length ≤ 1048576) (hh : hl.length ≤ 64) : ∀ (d i : Nat), i + d = hl.length → ∃ v K, ∀ k, K ≤ k → spec_Enough.l2 k p q hl (i : Int) a b s = some v ∧ impl_Enough.l0 k p q hl (hl.length : Int) (i : Int) a b s = some v
 | 0, i, hi => by
  refine ⟨true, 1, fun k hk => ?_⟩
  obtain ⟨k, rfl⟩ : ∃ m, k = m + 1 := ⟨k - 1, by omega⟩
  rw [spec_Enough.l2, impl_Enough.l0, if_neg (by omega), if_neg (by omega)]
  exact ⟨rfl, rfl⟩
 | d + 1, i, hi => by
  have e1 : (i : Int) < (hl.length : Int) := by omega
  have e2 : (0 : Int) ≤ (i : Int) := by omega
  have e9 : wrap64 ((i : Int) + 1) = ((i + 1 : Nat) : Int) := w64 (by omega) (by omega)
  obtain ⟨x, K1, h1⟩ := count_ev a b s hs hG (rd hl (i : Int)) q hq
  obtain ⟨y, K2, h2⟩ := count_ev a b s hs hG (rd hl (i : Int)) p hp
  obtain ⟨v, K3, h3⟩ := enough_l2 hG p q hl hp hq hh d (i + 1) (by omega)
  by_cases c : x > y
  ·refine ⟨false, K1 + K2 + 1, fun k hk => ?_⟩
   obtain ⟨k, rfl⟩ : ∃ m, k = m + 1 := ⟨k - 1, by omega⟩
   rw [spec_Enough.l2, impl_Enough.l0, if_pos e1, if_pos e2, if_pos e1, if_pos e2, if_pos e1, (h1 k (by omega)).1, (h1 k (by omega)).2, Option.bind_some, Option.bind_some, (h2 k (by omega)).1, (h2 k (by omega)).2, Option.bind_some, Option.bind_some, if_pos c, if_pos c]
   exact ⟨rfl, rfl⟩
  ·refine ⟨v, K1 + K2 + K3 + 1, fun k hk => ?_⟩
   obtain ⟨k, rfl⟩ : ∃ m, k = m + 1 := ⟨k - 1, by omega⟩
   rw [spec_Enough.l2, impl_Enough.l0, if_pos e1, if_pos e2, if_pos e1, if_pos e2, if_pos e1, (h1 k (by omega)).1, (h1 k (by omega)).2, Option.bind_some, Option.bind_some, (h2 k (by omega)).1, (h2 k (by omega)).2, Option.bind_some, Option.bind_some, if_neg c, if_neg c, e9]
   exact h3 k (by omega)
theorem enough_l1 (hG : Gok a b s) (p q : List Int) (hq : q.length ≤ 1048576) (hqf : FrFrom s q 0) : ∀ (d i : Nat), i + d = q.length → ∃ K, ∀ k, K ≤ k → spec_Enough.l1 (k + d + 1) p q (i : Int) a b s = ((spec_Homes.f k a b s).bind fun t220 => (spec_Enough.l2 k p q t220 0 a b s))
 | 0, i, hi => ⟨0, fun k _ => by rw [Nat.add_zero, spec_Enough.l1, if_neg (by omega)]⟩
 | d + 1, i, hi => by
  obtain ⟨g, K1, h1, hg⟩ := specFreeAt_ev a b s hs (rd q (i : Int))
  obtain rfl := hg.mpr ⟨hG, hqf i (Nat.zero_le _) (by omega)⟩
  obtain ⟨K2, h2⟩ := enough_l1 hG p q hq hqf d (i + 1) (by omega)
  refine ⟨K1 + K2, fun k hk => ?_⟩
  rw [show k + (d + 1) + 1 = (k + d + 1) + 1 by omega, spec_Enough.l1, if_pos (by omega), if_pos (by omega), h1 _ (by omega), Option.bind_some, if_pos rfl, show wrap64 ((i : Int) + 1) = ((i + 1 : Nat) : Int) from w64 (by omega) (by omega)]
  exact h2 k (by omega)
theorem enough_l0 (hG : Gok a b s) (p q : List Int) (hp : p.length ≤ 1048576) (hpf : FrFrom s p 0) : ∀ (d i : Nat), i + d = p.length → ∃ K, ∀ k, K ≤ k → spec_Enough.l0 (k + d + 1) p q (i : Int) a b s = spec_Enough.l1 k p q 0 a b s
 | 0, i, hi => ⟨0, fun k _ => by rw [Nat.add_zero, spec_Enough.l0, if_neg (by omega)]⟩
 | d + 1, i, hi => by
  obtain ⟨g, K1, h1, hg⟩ := specFreeAt_ev a b s hs (rd p (i : Int))
  obtain rfl := hg.mpr ⟨hG, hpf i (Nat.zero_le _) (by omega)⟩
  obtain ⟨K2, h2⟩ := enough_l0 hG p q hp hpf d (i + 1) (by omega)
  refine ⟨K1 + K2, fun k hk => ?_⟩
  rw [show k + (d + 1) + 1 = (k + d + 1) + 1 by omega, spec_Enough.l0, if_pos (by omega), if_pos (by omega), h1 _ (by omega), Option.bind_some, if_pos rfl, show wrap64 ((i : Int) + 1) = ((i + 1 : Nat) : Int) from w64 (by omega) (by omega)]
  exact h2 k (by omega)
theorem enough_ev (hG : Gok a b s) (p q : List Int) (hp : p.length ≤ 1048576) (hq : q.length ≤ 1048576) (hpf : FrFrom s p 0) (hqf : FrFrom s q 0) : ∃ v K, ∀ k, K ≤ k → spec_Enough.f k a b s p q = some v ∧ impl_Enough.f k a b s p q = some v := by
 obtain ⟨g, K0, h0, hg⟩ := gridOk_ev a b s hs
 obtain rfl := hg.mpr hG
 obtain ⟨g1, K1, h1, hg1⟩ := areFree_ev a b s hs p
 obtain rfl := hg1.mpr ⟨hG, hpf⟩
 obtain ⟨g2, K2, h2, hg2⟩ := areFree_ev a b s hs q
 obtain rfl := hg2.mpr ⟨hG, hqf⟩
 obtain ⟨hl, K3, h3, l3⟩ := homes_ev a b s hs
 obtain ⟨v, K4, h4⟩ := enough_l2 a b s hs hG p q hl hp hq l3 hl.length 0 (by omega)
 obtain ⟨K5, h5⟩ := enough_l0 a b s hs hG p q hp hpf p.length 0 (by omega)
 obtain ⟨K6, h6⟩ := enough_l1 a b s hs hG p q hq hqf q.length 0 (by omega)
 rw [show ((0 : Nat) : Int) = 0 from rfl] at h5 h6
 refine ⟨v, K0 + K1 + K2 + K3 + K4 + K5 + K6 + p.length + q.length + 3, fun k hk => ?_⟩
 obtain ⟨k, rfl⟩ : ∃ m, k = (m + q.length + 1) + p.length + 1 := ⟨k - q.length - p.length - 2, by omega⟩
 have h4' := (h4 k (by omega)).1
 rw [show ((0 : Nat) : Int) = 0 from rfl] at h4'
 constructor
 ·unfold spec_Enough.f
  rw [(h0 _ (by omega)).1, Option.bind_some, if_pos rfl, h5 _ (by omega), h6 _ (by omega), (h3 k (by omega)).1, Option.bind_some]
  exact h4'
 ·unfold impl_Enough.f
  rw [h1 _ (by omega), Option.bind_some, if_pos rfl, h2 _ (by omega), Option.bind_some, Bool.not_true, impl_Enough.j0, if_neg (by decide), (h3 _ (by omega)).2, Option.bind_some]
  have := (h4 ((k + q.length + 1) + p.length) (by omega)).2
  rw [show ((0 : Nat) : Int) = 0 from rfl] at this
  exact this
end
end Go.Proofs.Ytmdkfmbgddhjcaa.Pure
/- What a grid weighs. -/
namespace Go.Proofs.Ytmdkfmbgddhjcaa.Pure
open Go.RowKit Go.Proofs.Ytmdkfmbgddhjcaa.Q Go.Proofs.YtmdkfmbgddhjcaaW.PrintWords Go.Proofs.YtmdkfmbgddhjcaaW.PrintLast
theorem szGrid_eq (a b : Int) (s : ByteArray) (hs : s.size ≤ maxLen) (m : Int) (hm0 : 0 ≤ m) (hm : m ≤ 1048576) : laws_szGrid.f a b s m = some (if (s.size : Int) ≤ m then m - (s.size : Int) else -1) := by
 unfold laws_szGrid.f
 unfold maxLen at hs
 rw [w64 (by omega) (by omega)]
 by_cases h : (s.size : Int) ≤ m
 ·rw [if_neg (by omega), if_pos h]
 ·rw [if_pos (by omega), if_neg h]
end Go.Proofs.Ytmdkfmbgddhjcaa.Pure
/- What is asked for: starts and goals. -/
namespace Go.Proofs.Ytmdkfmbgddhjcaa.Pure
open Go.RowKit Go.Proofs.Ytmdkfmbgddhjcaa.Q Go.Proofs.YtmdkfmbgddhjcaaW.PrintWords Go.Proofs.YtmdkfmbgddhjcaaW.PrintLast
def Asked (a b : Int) (s : ByteArray) (l m : List Int) : Prop := Gok a b s ∧ FrFrom s l 0 ∧ FrFrom s m 0 ∧ 1 ≤ l.length ∧ l.length ≤ 10 ∧ AscFrom l 0 ∧ AscFrom m 0 ∧ m.length ≤ l.length
theorem isAsked_ev (a b : Int) (s : ByteArray) (hs : s.size ≤ 1048576) (l m : List Int) (hl : l.length ≤ 1048576) (hm : m.length ≤ 1048576) : ∃ g K, (∀ k, K ≤ k → impl_isAsked.f k a b s l m = some g) ∧ (g = true ↔ Asked a b s l m) := by
 obtain ⟨g1, K1, h1, q1⟩ := areFree_ev a b s hs l
 obtain ⟨g2, K2, h2, q2⟩ := areFree_ev a b s hs m
 obtain ⟨g3, K3, h3, q3⟩ := implAsc_ev l hl
 obtain ⟨g4, K4, h4, q4⟩ := implAsc_ev m hm
 have hj : ∀ k, impl_isAsked.j0 (k + 1) l m true = some false := fun k => by simp only [impl_isAsked.j0, reduceIte]
 by_cases hA : Asked a b s l m
 ·obtain ⟨x1, x2, x3, x4, x5, x6, x7, x8⟩ := id hA
  obtain rfl := q1.mpr ⟨x1, x2⟩
  obtain rfl := q2.mpr ⟨x1, x3⟩
  obtain rfl := q3.mpr x6
  obtain rfl := q4.mpr x7
  refine ⟨true, K1 + K2 + K3 + K4 + 1, fun k hk => ?_, ⟨fun _ => hA, fun _ => rfl⟩⟩
  obtain ⟨k, rfl⟩ : ∃ m, k = m + 1 := ⟨k - 1, by omega⟩
  unfold impl_isAsked.f
  rw [h1 (k + 1) (by omega), Option.bind_some, if_pos rfl, h2 (k + 1) (by omega), Option.bind_some, if_pos rfl, if_neg (by omega), decide_eq_false (by omega)]
  simp only [impl_isAsked.j0, Bool.false_eq_true, reduceIte]
  rw [h3 k (by omega), Option.bind_some, if_pos rfl, h4 k (by omega), Option.bind_some, if_pos rfl, decide_eq_true (by omega)]
 ·refine ⟨false, K1 + K2 + K3 + K4 + 1, fun k hk => ?_, ⟨fun h => (by cases h), fun h => absurd h hA⟩⟩
  obtain ⟨k, rfl⟩ : ∃ m, k = m + 1 := ⟨k - 1, by omega⟩
  unfold impl_isAsked.f
  rw [h1 (k + 1) (by omega), Option.bind_some]
  cases g1 with
  | false => rw [if_neg (by decide), hj]
  | true =>
   rw [if_pos rfl, h2 (k + 1) (by omega), Option.bind_some]
   cases g2 with
   | false => rw [if_neg (by decide), hj]
   | true =>
    rw [if_pos rfl]
    by_cases c1 : (l.length : Int) < 1
    ·rw [if_pos c1, hj]
    ·rw [if_neg c1]
     by_cases c2 : (l.length : Int) > 10
     ·rw [decide_eq_true c2, hj]
     ·rw [decide_eq_false c2]
      simp only [impl_isAsked.j0, Bool.false_eq_true, reduceIte]
      rw [h3 k (by omega), Option.bind_some]
      cases g3 with
      | false => rw [if_neg (by decide)]
      | true =>
       rw [if_pos rfl, h4 k (by omega), Option.bind_some]
       cases g4 with
       | false => rw [if_neg (by decide)]
       | true =>
        rw [if_pos rfl, decide_eq_false]
        intro c3
        exact hA ⟨(q1.mp rfl).1, (q1.mp rfl).2, (q2.mp rfl).2, by omega, by omega, q3.mp rfl, q4.mp rfl, by omega⟩
end Go.Proofs.Ytmdkfmbgddhjcaa.Pure
