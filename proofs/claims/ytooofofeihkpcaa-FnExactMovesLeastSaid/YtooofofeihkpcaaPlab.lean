/- Labels by distance: two labellings of cells that start at the same cells and go on by steps of one are one and the same. -/
import Derived.Test.YtooofofeihkpcaaPb
namespace Go.Proofs.Ytooofofeihkpcaa.Pure
open Go.RowKit Go.Proofs.YtooofofeihkpcaaW.PrintWords Go.Proofs.YtooofofeihkpcaaW.PrintLast
theorem rd_app1 (l : List Int) (x : Int) (j : Nat) (h : j < l.length) : rd (l ++ [x]) (j : Int) = rd l (j : Int) := by
  rw [rd_get _ _ (by simp; omega), rd_get _ _ h, List.getElem_append_left h]
theorem rd_app2 (l : List Int) (x : Int) : rd (l ++ [x]) (l.length : Int) = x := by
  rw [rd_get _ _ (by simp)]; simp
theorem rd_put1 (l : List Int) (c v : Int) (h0 : 0 ≤ c) (h1 : c < (l.length : Int)) : rd (l.set c.toNat v) c = v := by
  obtain ⟨m, rfl⟩ := Int.eq_ofNat_of_zero_le h0
  rw [Int.toNat_natCast, rd_get _ _ (by simp; omega)]; simp
theorem rd_put2 (l : List Int) (c v y : Int) (h0 : 0 ≤ c) (h2 : 0 ≤ y) (hne : y ≠ c) : rd (l.set c.toNat v) y = rd l y := by
  obtain ⟨m, rfl⟩ := Int.eq_ofNat_of_zero_le h0
  obtain ⟨j, rfl⟩ := Int.eq_ofNat_of_zero_le h2
  rw [Int.toNat_natCast, rd_nat, rd_nat, List.getD_eq_getElem?_getD, List.getD_eq_getElem?_getD, List.getElem?_set_ne (by omega)]
theorem mem_rd (l : List Int) (x : Int) : x ∈ l ↔ ∃ j : Nat, j < l.length ∧ rd l (j : Int) = x := by
  constructor
  · intro h
    obtain ⟨j, hj, rfl⟩ := List.getElem_of_mem h
    exact ⟨j, hj, rd_get l j hj⟩
  · rintro ⟨j, hj, rfl⟩
    rw [rd_get l j hj]
    exact List.getElem_mem hj
/-- A list that holds all numbers below e is at least e long. -/
theorem many_len : ∀ (e : Nat) (d : List Int), (∀ m : Nat, m < e → (m : Int) ∈ d) → e ≤ d.length
  | 0, _, _ => Nat.zero_le _
  | e + 1, d, h => by
    have h1 := many_len e (d.erase (e : Int)) (fun m hm => by
      rw [List.mem_erase_of_ne (by omega)]
      exact h m (by omega))
    have h2 := List.length_erase_of_mem (h e (by omega))
    have h3 : 0 < d.length := List.length_pos_of_mem (h e (by omega))
    omega
/-- A labelling in the making: A c x says that x is a neighbour of c. -/
structure Part (A : Int → Int → Prop) (n : Nat) (src : List Int) (d : List Int) : Prop where
  len : d.length = n
  low : ∀ c : Int, 0 ≤ c → c < n → -1 ≤ rd d c
  zero : ∀ c : Int, 0 ≤ c → c < n → (rd d c = 0 ↔ c ∈ src)
  back : ∀ c : Int, 0 ≤ c → c < n → 0 < rd d c → ∃ b : Int, 0 ≤ b ∧ b < n ∧ rd d b = rd d c - 1 ∧ A b c
/-- All neighbours of c are labelled, and by one more at most. -/
def Clo (A : Int → Int → Prop) (d : List Int) (c : Int) : Prop := ∀ x, A c x → 0 ≤ rd d x ∧ rd d x ≤ rd d c + 1
theorem Part.step {A n src d} (h : Part A n src d) {c x : Int} (hc0 : 0 ≤ c) (hc1 : c < n) (hx0 : 0 ≤ x) (hx1 : x < n) (hA : A c x) (hd : 0 ≤ rd d c) (hx : rd d x < 0) : Part A n src (d.set x.toNat (rd d c + 1)) := by
  have hl := h.len
  have e1 : rd (d.set x.toNat (rd d c + 1)) x = rd d c + 1 := rd_put1 d x _ hx0 (by omega)
  have e2 : ∀ y : Int, 0 ≤ y → y ≠ x → rd (d.set x.toNat (rd d c + 1)) y = rd d y := fun y hy hne => rd_put2 d x _ y hx0 hy hne
  refine ⟨by simp [hl], ?_, ?_, ?_⟩
  · intro y h0 h1
    by_cases e : y = x
    · subst e; rw [e1]; omega
    · rw [e2 y h0 e]; exact h.low y h0 h1
  · intro y h0 h1
    by_cases e : y = x
    · subst e
      rw [e1, ← h.zero y h0 h1]
      omega
    · rw [e2 y h0 e]; exact h.zero y h0 h1
  · intro y h0 h1
    by_cases e : y = x
    · subst e
      intro _
      refine ⟨c, hc0, hc1, ?_, hA⟩
      rw [e1, e2 c hc0 (by intro e; subst e; omega)]
      omega
    · rw [e2 y h0 e]
      intro hp
      obtain ⟨b, b0, b1, b2, b3⟩ := h.back y h0 h1 hp
      exact ⟨b, b0, b1, by rw [e2 b b0 (by intro e; subst e; omega)]; exact b2, b3⟩
theorem Clo.step {A : Int → Int → Prop} {d : List Int} {c : Int} (h : Clo A d c) (n : Nat) (hA : ∀ c x, A c x → 0 ≤ x ∧ x < (n : Int)) {x : Int} (v : Int) (hx0 : 0 ≤ x) (hc0 : 0 ≤ c) (hd : 0 ≤ rd d c) (hx : rd d x < 0) : Clo A (d.set x.toNat v) c := by
  intro y hy
  obtain ⟨h1, h2⟩ := h y hy
  rw [rd_put2 d x v y hx0 (hA c y hy).1 (by intro e; subst e; omega), rd_put2 d x v c hx0 hc0 (by intro e; subst e; omega)]
  exact ⟨h1, h2⟩
theorem Part.all {A n src d} (h : Part A n src d) : ∀ (e : Nat) (c : Int), 0 ≤ c → c < n → rd d c = e → ∀ m : Nat, m ≤ e → (m : Int) ∈ d
  | 0, c, h0, h1, hc, m, hm => by
    obtain rfl : m = 0 := by omega
    obtain ⟨j, rfl⟩ := Int.eq_ofNat_of_zero_le h0
    have hl := h.len
    exact (mem_rd d _).mpr ⟨j, by omega, hc⟩
  | e + 1, c, h0, h1, hc, m, hm => by
    by_cases he : m = e + 1
    · subst he
      obtain ⟨j, rfl⟩ := Int.eq_ofNat_of_zero_le h0
      have hl := h.len
      exact (mem_rd d _).mpr ⟨j, by omega, hc⟩
    · obtain ⟨b, b0, b1, b2, _⟩ := h.back c h0 h1 (by omega)
      exact Part.all h e b b0 b1 (by omega) m (by omega)
theorem Part.lt {A n src d} (h : Part A n src d) (c : Int) (h0 : 0 ≤ c) (h1 : c < n) : rd d c < n := by
  have hlow := h.low c h0 h1
  have hl := h.len
  by_cases hn : rd d c < 0
  · omega
  · obtain ⟨e, he⟩ := Int.eq_ofNat_of_zero_le (by omega : 0 ≤ rd d c)
    have := many_len (e + 1) d (fun m hm => h.all e c h0 h1 he m (by omega))
    omega
/-- A full labelling. -/
def Lab (A : Int → Int → Prop) (n : Nat) (src : List Int) (d : List Int) : Prop := Part A n src d ∧ ∀ c : Int, 0 ≤ c → c < n → 0 ≤ rd d c → Clo A d c
theorem Lab.le {A : Int → Int → Prop} {n : Nat} {src d d' : List Int} (hA : ∀ c x, A c x → 0 ≤ x ∧ x < (n : Int)) (h : Part A n src d) (h' : Lab A n src d') : ∀ (e : Nat) (c : Int), 0 ≤ c → c < n → rd d c = e → 0 ≤ rd d' c ∧ rd d' c ≤ e
  | 0, c, h0, h1, hc => by
    have := (h'.1.zero c h0 h1).mpr ((h.zero c h0 h1).mp hc)
    omega
  | e + 1, c, h0, h1, hc => by
    obtain ⟨b, b0, b1, b2, b3⟩ := h.back c h0 h1 (by omega)
    obtain ⟨i1, i2⟩ := Lab.le hA h h' e b b0 b1 (by omega)
    obtain ⟨j1, j2⟩ := h'.2 b b0 b1 i1 c b3
    exact ⟨j1, by omega⟩
theorem Lab.uniq {A : Int → Int → Prop} {n : Nat} {src d d' : List Int} (hA : ∀ c x, A c x → 0 ≤ x ∧ x < (n : Int)) (h : Lab A n src d) (h' : Lab A n src d') : d = d' := by
  have hl := h.1.len
  have hl' := h'.1.len
  apply List.ext_getElem (by omega)
  intro j h1 h2
  rw [← rd_get d j h1, ← rd_get d' j h2]
  have a1 := h.1.low (j : Int) (by omega) (by omega)
  have a2 := h'.1.low (j : Int) (by omega) (by omega)
  by_cases c1 : 0 ≤ rd d (j : Int)
  · obtain ⟨e, he⟩ := Int.eq_ofNat_of_zero_le c1
    obtain ⟨i1, i2⟩ := Lab.le hA h.1 h' e j (by omega) (by omega) he
    obtain ⟨e', he'⟩ := Int.eq_ofNat_of_zero_le i1
    obtain ⟨_, i4⟩ := Lab.le hA h'.1 h e' j (by omega) (by omega) he'
    omega
  · by_cases c2 : 0 ≤ rd d' (j : Int)
    · obtain ⟨e', he'⟩ := Int.eq_ofNat_of_zero_le c2
      obtain ⟨i3, i4⟩ := Lab.le hA h'.1 h e' j (by omega) (by omega) he'
      omega
    · omega
/-- How many cells have no label yet. -/
def negs (d : List Int) : Nat := d.countP (fun v => decide (v < 0))
theorem negs_put (d : List Int) (x v : Int) (h0 : 0 ≤ x) (h1 : x < (d.length : Int)) (hx : rd d x < 0) (hv : 0 ≤ v) : negs (d.set x.toNat v) + 1 = negs d := by
  obtain ⟨m, rfl⟩ := Int.eq_ofNat_of_zero_le h0
  have hm : m < d.length := by omega
  rw [rd_get d m hm] at hx
  unfold negs
  rw [Int.toNat_natCast, List.countP_set hm, decide_eq_true hx, decide_eq_false (by omega)]
  have : 0 < d.countP (fun v => decide (v < 0)) := List.countP_pos_iff.mpr ⟨d[m], List.getElem_mem hm, by simpa using hx⟩
  simp
  omega
end Go.Proofs.Ytooofofeihkpcaa.Pure
