/- Parking cells of zones, and those of them that are not held: what the program and the reference answer. -/
import Derived.Test.YtooofofeihkpcaaPgr
import Derived.Test.YtooofofeihkpcaaQ19
import Derived.Test.YtooofofeihkpcaaQ24
import Derived.Test.YtooofofeihkpcaaQ20
import Derived.Test.YtooofofeihkpcaaQ21
import Derived.Test.YtooofofeihkpcaaQ26
import Derived.Test.YtooofofeihkpcaaQ25
set_option linter.unusedSimpArgs false
namespace Go.Proofs.Ytooofofeihkpcaa.Pure
open Go.RowKit Go.Proofs.Ytooofofeihkpcaa.Q Go.Proofs.YtooofofeihkpcaaW.PrintWords Go.Proofs.YtooofofeihkpcaaW.PrintLast
theorem has_l0 (l : List Int) (c : Int) (hn : l.length ≤ 9223372036854775807) : ∀ (d i k : Nat), i + d = l.length → d < k → spec_l03Has.l0 k l c (i : Int) = some (decide (c ∈ l.drop i))
  | 0, i, k, hi, hk => by
    obtain ⟨k, rfl⟩ : ∃ m, k = m + 1 := ⟨k - 1, by omega⟩
    simp only [spec_l03Has.l0]
    rw [if_neg (by omega), List.drop_of_length_le (by omega)]
    simp
  | d + 1, i, k, hi, hk => by
    obtain ⟨k, rfl⟩ : ∃ m, k = m + 1 := ⟨k - 1, by omega⟩
    simp only [spec_l03Has.l0]
    rw [if_pos (by omega), if_pos (by omega), rd_get l i (by omega), drop_cons l i (by omega)]
    by_cases e : l[i]'(by omega) = c
    · rw [if_pos e, decide_eq_true (by simp [e])]
    · rw [if_neg e, w64 (by omega) (by omega), show ((i : Int) + 1) = ((i + 1 : Nat) : Int) by omega, has_l0 l c hn d (i + 1) k (by omega) (by omega)]
      congr 1
      exact decide_eq_decide.mpr (by simp only [List.mem_cons, Ne.symm e, false_or])
theorem has_eq (l : List Int) (c : Int) (hn : l.length ≤ 9223372036854775807) (k : Nat) (hk : l.length < k) : spec_l03Has.f k l c = some (decide (c ∈ l)) := by
  have := has_l0 l c hn l.length 0 k (by omega) hk
  simpa [spec_l03Has.f] using this
/-- A cell at which one can park. -/
def Pk (s : ByteArray) (c : Int) : Prop := 0 ≤ c ∧ c < (s.size : Int) ∧ 65 ≤ bt s c ∧ bt s c ≤ 70
instance (s : ByteArray) (c : Int) : Decidable (Pk s c) := by unfold Pk; exact inferInstance
theorem parkAt_ev (a b : Int) (s : ByteArray) (hs : s.size ≤ 1048576) (c : Int) : ∃ g K, (∀ k, K ≤ k → spec_ParkAt.f k a b s c = some g ∧ impl_ParkAt.f k a b s c = some g) ∧ (g = true ↔ Gok a b s ∧ Pk s c) := by
  obtain ⟨g, K, h, hg⟩ := gridOk_ev a b s hs
  obtain ⟨f, K1, h1, hf⟩ := implFreeAt_ev a b s hs c
  cases g with
  | false =>
    have hG : ¬ Gok a b s := fun h => absurd (hg.mpr h) (by decide)
    have : f = false := by
      cases f with
      | false => rfl
      | true => exact absurd (hf.mp rfl).1 hG
    subst this
    refine ⟨false, K + K1, fun k hk => ?_, ⟨fun h => (by cases h), fun h => absurd h.1 hG⟩⟩
    unfold spec_ParkAt.f impl_ParkAt.f
    rw [(h k (by omega)).2, (h1 k (by omega)).1]
    exact ⟨rfl, rfl⟩
  | true =>
    have hG := hg.mp rfl
    refine ⟨decide (Pk s c), K + K1, fun k hk => ?_, ⟨fun h => ⟨hG, of_decide_eq_true h⟩, fun h => decide_eq_true h.2⟩⟩
    unfold spec_ParkAt.f impl_ParkAt.f
    rw [(h k (by omega)).2, (h1 k (by omega)).1, Option.bind_some, Option.bind_some, if_pos (rfl : true = true)]
    by_cases c1 : c ≥ 0
    · by_cases c2 : c < (s.size : Int)
      · simp only [c1, c2, reduceIte]
        by_cases c3 : bt s c ≥ 65
        · have e : decide (bt s c ≤ 70) = decide (Pk s c) := decide_eq_decide.mpr ⟨fun h => ⟨c1, c2, c3, h⟩, fun h => h.2.2.2⟩
          rw [if_pos c3, e]
          cases f with
          | true => exact ⟨rfl, rfl⟩
          | false =>
            refine ⟨?_, rfl⟩
            rw [if_neg (by decide), decide_eq_false]
            intro hp
            have : Fr s c := ⟨c1, c2, by have := hp.2.2.1; omega⟩
            exact absurd (hf.mpr ⟨hG, this⟩) (by decide)
        · rw [if_neg c3, decide_eq_false (fun h : Pk s c => c3 h.2.2.1)]
          cases f <;> exact ⟨rfl, rfl⟩
      · have hp : decide (Pk s c) = false := decide_eq_false fun h => c2 h.2.1
        have : f = false := by
          cases f with
          | false => rfl
          | true => exact absurd (hf.mp rfl).2.2.1 c2
        subst this
        rw [hp]
        simp only [c1, c2, reduceIte, Bool.false_eq_true, and_self]
    · have hp : decide (Pk s c) = false := decide_eq_false fun h => c1 h.1
      have : f = false := by
        cases f with
        | false => rfl
        | true => exact absurd (hf.mp rfl).2.1 c1
      subst this
      rw [hp]
      simp only [c1, reduceIte, Bool.false_eq_true, and_self]
theorem zoneOf_ev (a b : Int) (s : ByteArray) (hs : s.size ≤ 1048576) (c : Int) (hG : Gok a b s) (hp : Pk s c) : ∃ K, ∀ k, K ≤ k → spec_ZoneOf.f k a b s c = some (bt s c - 65) ∧ impl_ZoneOf.f k a b s c = some (bt s c - 65) := by
  obtain ⟨g, K, h, hg⟩ := gridOk_ev a b s hs
  obtain ⟨f, K1, h1, hf⟩ := implFreeAt_ev a b s hs c
  obtain rfl := hg.mpr hG
  obtain ⟨p1, p2, p3, p4⟩ := hp
  obtain rfl := hf.mpr ⟨hG, p1, p2, by omega⟩
  refine ⟨K + K1 + 2, fun k hk => ?_⟩
  obtain ⟨k, rfl⟩ : ∃ m, k = m + 2 := ⟨k - 2, by omega⟩
  unfold spec_ZoneOf.f impl_ZoneOf.f
  rw [(h (k + 2) (by omega)).2, (h1 (k + 2) (by omega)).1, Option.bind_some, Option.bind_some, if_pos (rfl : true = true), if_pos (rfl : true = true)]
  rw [if_pos p1, if_pos p2, if_neg (by omega), decide_eq_false (by omega)]
  have e1 : (bt s c == 46) = false := by rw [beq_eq_false_iff_ne]; omega
  have e2 : ¬ bt s c ≥ 97 := by omega
  have e3 : bt s c ≥ 65 := by omega
  have e4 : wrap64 (bt s c) = bt s c := w64 (by omega) (by omega)
  have e5 : wrap64 (bt s c - 65) = bt s c - 65 := w64 (by omega) (by omega)
  have e6 : (bt s c - 65) % 256 = bt s c - 65 := Int.emod_eq_of_lt (by omega) (by omega)
  rw [e1]
  simp only [spec_ZoneOf.j0, impl_ZoneOf.j0, impl_ZoneOf.j1, p1, p2, p4, e2, e3, e4, e5, e6, reduceIte, Bool.false_eq_true, and_self]
/-- A cell of a zone at which one can park. -/
def pz (s : ByteArray) (z : Int) (c : Int) : Bool := decide (Pk s c ∧ bt s c - 65 = z)
/-- The cells of a zone at which one can park. -/
noncomputable def parks (a b : Int) (s : ByteArray) (z : Int) : List Int := (frees a b s).filter (pz s z)
theorem parks_len (a b : Int) (s : ByteArray) (z : Int) : (parks a b s z).length ≤ 64 := Nat.le_trans (List.length_filter_le _ _) (frees_len a b s)
theorem implParks_l0 (a b : Int) (s : ByteArray) (hs : s.size ≤ 1048576) (hG : Gok a b s) (z : Int) (l : List Int) (hl : l.length ≤ 64) : ∀ (d i : Nat) (acc : List Int), i + d = l.length → acc.length ≤ i → ∃ K, ∀ k, K ≤ k → impl_ParksIn.l0 k z acc l (l.length : Int) (i : Int) a b s = some (acc ++ (l.drop i).filter (pz s z))
  | 0, i, acc, hi, ha => by
    refine ⟨1, fun k hk => ?_⟩
    obtain ⟨k, rfl⟩ : ∃ m, k = m + 1 := ⟨k - 1, by omega⟩
    simp only [impl_ParksIn.l0]
    rw [if_neg (by omega), List.drop_of_length_le (by omega)]
    simp
  | d + 1, i, acc, hi, ha => by
    have hlt : i < l.length := by omega
    have hrd := rd_get l i hlt
    have e9 : wrap64 ((i : Int) + 1) = ((i + 1 : Nat) : Int) := by rw [w64 (by omega) (by omega)]; rfl
    obtain ⟨g, K1, h1, hg⟩ := parkAt_ev a b s hs (rd l (i : Int))
    have hsplit : (l.drop i).filter (pz s z) = (if pz s z (rd l (i : Int)) = true then [rd l (i : Int)] else []) ++ (l.drop (i + 1)).filter (pz s z) := by
      rw [drop_cons l i hlt, List.filter_cons, hrd]
      split <;> simp
    have hstep : ∀ k, impl_ParksIn.l0 (k + 1) z acc l (l.length : Int) (i : Int) a b s = ((impl_ParkAt.f k a b s (rd l i)).bind fun t156 => (if t156 = true then ((impl_ZoneOf.f k a b s (rd l i)).bind fun t157 => (if t157 = z then (if acc.length < 17592186044416 then (impl_ParksIn.l0 k z (acc ++ [rd l i]) l (l.length : Int) ((i + 1 : Nat) : Int) a b s) else (none)) else (impl_ParksIn.l0 k z acc l (l.length : Int) ((i + 1 : Nat) : Int) a b s))) else (impl_ParksIn.l0 k z acc l (l.length : Int) ((i + 1 : Nat) : Int) a b s))) := fun k => by
      simp only [impl_ParksIn.l0]
      rw [if_pos (by omega), if_pos (by omega), if_pos (by omega), e9]
    cases g with
    | false =>
      obtain ⟨K, h⟩ := implParks_l0 a b s hs hG z l hl d (i + 1) acc (by omega) (by omega)
      refine ⟨K + K1 + 1, fun k hk => ?_⟩
      obtain ⟨k, rfl⟩ : ∃ m, k = m + 1 := ⟨k - 1, by omega⟩
      have hp : pz s z (rd l (i : Int)) = false := decide_eq_false fun hp => absurd (hg.mpr ⟨hG, hp.1⟩) (by decide)
      rw [hstep, (h1 k (by omega)).2, Option.bind_some, if_neg (by decide), h k (by omega), hsplit, hp]
      simp
    | true =>
      have hpk := (hg.mp rfl).2
      obtain ⟨K2, h2⟩ := zoneOf_ev a b s hs (rd l (i : Int)) hG hpk
      by_cases ez : bt s (rd l (i : Int)) - 65 = z
      · obtain ⟨K, h⟩ := implParks_l0 a b s hs hG z l hl d (i + 1) (acc ++ [rd l (i : Int)]) (by omega) (by simp; omega)
        refine ⟨K + K1 + K2 + 1, fun k hk => ?_⟩
        obtain ⟨k, rfl⟩ : ∃ m, k = m + 1 := ⟨k - 1, by omega⟩
        have hp : pz s z (rd l (i : Int)) = true := decide_eq_true ⟨hpk, ez⟩
        rw [hstep, (h1 k (by omega)).2, Option.bind_some, if_pos rfl, (h2 k (by omega)).2, Option.bind_some, if_pos ez, if_pos (by omega), h k (by omega), hsplit, hp]
        simp
      · obtain ⟨K, h⟩ := implParks_l0 a b s hs hG z l hl d (i + 1) acc (by omega) (by omega)
        refine ⟨K + K1 + K2 + 1, fun k hk => ?_⟩
        obtain ⟨k, rfl⟩ : ∃ m, k = m + 1 := ⟨k - 1, by omega⟩
        have hp : pz s z (rd l (i : Int)) = false := decide_eq_false fun hp => ez hp.2
        rw [hstep, (h1 k (by omega)).2, Option.bind_some, if_pos rfl, (h2 k (by omega)).2, Option.bind_some, if_neg ez, h k (by omega), hsplit, hp]
        simp
theorem implParks_ev (a b : Int) (s : ByteArray) (hs : s.size ≤ 1048576) (z : Int) : ∃ K, ∀ k, K ≤ k → impl_ParksIn.f k a b s z = some (parks a b s z) := by
  obtain ⟨K1, h1⟩ := implFree_ev a b s hs
  by_cases hG : Gok a b s
  · obtain ⟨K, h⟩ := implParks_l0 a b s hs hG z (frees a b s) (frees_len a b s) (frees a b s).length 0 [] (by omega) (by simp)
    refine ⟨K + K1, fun k hk => ?_⟩
    have h0 := h k (by omega)
    rw [show ((0 : Nat) : Int) = 0 from rfl] at h0
    unfold impl_ParksIn.f parks
    rw [h1 k (by omega), Option.bind_some, h0]
    simp
  · have hf : frees a b s = [] := by unfold frees; rw [if_neg hG]
    refine ⟨K1 + 1, fun k hk => ?_⟩
    obtain ⟨k, rfl⟩ : ∃ m, k = m + 1 := ⟨k - 1, by omega⟩
    unfold impl_ParksIn.f parks
    rw [h1 (k + 1) (by omega), Option.bind_some, hf]
    simp [impl_ParksIn.l0]
theorem specParks_l0 (a b : Int) (s : ByteArray) (hs : s.size ≤ 1048576) (z : Int) : ∀ (d i : Nat) (acc : List Int), i + d = min s.size 64 → acc.length ≤ i → ∃ v K, (∀ k, K ≤ k → spec_ParksIn.l0 k z acc (i : Int) a b s = some v) ∧ (Gok a b s → v = acc ++ (fr s d i).filter (pz s z)) ∧ (¬ Gok a b s → v = acc)
  | 0, i, acc, hi, ha => by
    refine ⟨acc, 2, fun k hk => ?_, by simp [fr], fun _ => rfl⟩
    obtain ⟨k, rfl⟩ : ∃ m, k = m + 2 := ⟨k - 2, by omega⟩
    simp only [spec_ParksIn.l0]
    by_cases c : (i : Int) < (s.size : Int)
    · rw [if_pos c, decide_eq_false (by omega)]
      simp only [spec_ParksIn.j1, Bool.false_eq_true, reduceIte]
    · rw [if_neg c]
      simp only [spec_ParksIn.j1, Bool.false_eq_true, reduceIte]
  | d + 1, i, acc, hi, ha => by
    obtain ⟨g, K1, h1, hg⟩ := parkAt_ev a b s hs (i : Int)
    have e1 : (i : Int) < (s.size : Int) := by omega
    have e2 : decide ((i : Int) < 64) = true := decide_eq_true (by omega)
    have e9 : wrap64 ((i : Int) + 1) = ((i + 1 : Nat) : Int) := by rw [w64 (by omega) (by omega)]; rfl
    have hfr : (fr s (d + 1) i).filter (pz s z) = (if pz s z (i : Int) = true then [(i : Int)] else []) ++ (fr s d (i + 1)).filter (pz s z) := by
      rw [show fr s (d + 1) i = if Fr s (i : Int) then (i : Int) :: fr s d (i + 1) else fr s d (i + 1) from rfl]
      by_cases c : Fr s (i : Int)
      · rw [if_pos c, List.filter_cons]
        split <;> simp
      · have hp : pz s z (i : Int) = false := decide_eq_false fun hp => c ⟨hp.1.1, hp.1.2.1, by have := hp.1.2.2.1; omega⟩
        rw [if_neg c, hp]
        simp
    cases g with
    | true =>
      obtain ⟨hG, hpk⟩ := hg.mp rfl
      obtain ⟨K2, h2⟩ := zoneOf_ev a b s hs (i : Int) hG hpk
      by_cases ez : bt s (i : Int) - 65 = z
      · obtain ⟨v, K, h, hv, hw⟩ := specParks_l0 a b s hs z d (i + 1) (acc ++ [(i : Int)]) (by omega) (by simp; omega)
        have hp : pz s z (i : Int) = true := decide_eq_true ⟨hpk, ez⟩
        refine ⟨v, K + K1 + K2 + 2, fun k hk => ?_, fun hG => ?_, fun hN => absurd hG hN⟩
        · obtain ⟨k, rfl⟩ : ∃ m, k = m + 2 := ⟨k - 2, by omega⟩
          simp only [spec_ParksIn.l0]
          rw [if_pos e1, e2]
          simp only [spec_ParksIn.j1, reduceIte]
          rw [(h1 k (by omega)).1, Option.bind_some, if_pos rfl, (h2 k (by omega)).1, Option.bind_some, if_pos ez, if_pos (by omega), e9]
          exact h k (by omega)
        · rw [hv hG, hfr, hp]; simp
      · obtain ⟨v, K, h, hv, hw⟩ := specParks_l0 a b s hs z d (i + 1) acc (by omega) (by omega)
        have hp : pz s z (i : Int) = false := decide_eq_false fun hp => ez hp.2
        refine ⟨v, K + K1 + K2 + 2, fun k hk => ?_, fun hG => ?_, fun hN => absurd hG hN⟩
        · obtain ⟨k, rfl⟩ : ∃ m, k = m + 2 := ⟨k - 2, by omega⟩
          simp only [spec_ParksIn.l0]
          rw [if_pos e1, e2]
          simp only [spec_ParksIn.j1, reduceIte]
          rw [(h1 k (by omega)).1, Option.bind_some, if_pos rfl, (h2 k (by omega)).1, Option.bind_some, if_neg ez, e9]
          exact h k (by omega)
        · rw [hv hG, hfr, hp]; simp
    | false =>
      obtain ⟨v, K, h, hv, hw⟩ := specParks_l0 a b s hs z d (i + 1) acc (by omega) (by omega)
      refine ⟨v, K + K1 + 2, fun k hk => ?_, fun hG => ?_, hw⟩
      · obtain ⟨k, rfl⟩ : ∃ m, k = m + 2 := ⟨k - 2, by omega⟩
        simp only [spec_ParksIn.l0]
        rw [if_pos e1, e2]
        simp only [spec_ParksIn.j1, reduceIte]
        rw [(h1 k (by omega)).1, Option.bind_some, if_neg (by decide), e9]
        exact h k (by omega)
      · have hp : pz s z (i : Int) = false := decide_eq_false fun hp => absurd (hg.mpr ⟨hG, hp.1⟩) (by decide)
        rw [hv hG, hfr, hp]; simp
theorem specParks_ev (a b : Int) (s : ByteArray) (hs : s.size ≤ 1048576) (z : Int) : ∃ K, ∀ k, K ≤ k → spec_ParksIn.f k a b s z = some (parks a b s z) := by
  obtain ⟨v, K, h, hv, hw⟩ := specParks_l0 a b s hs z (min s.size 64) 0 [] (by omega) (by simp)
  refine ⟨K, fun k hk => ?_⟩
  have h0 := h k hk
  rw [show ((0 : Nat) : Int) = 0 from rfl] at h0
  unfold spec_ParksIn.f parks frees
  rw [h0]
  by_cases hG : Gok a b s
  · rw [hv hG, if_pos hG, Nat.min_eq_left (Gok_size hG)]; simp
  · rw [hw hG, if_neg hG]; simp
/-- How many cells of a zone at which one can park are not held. -/
noncomputable def room (a b : Int) (s : ByteArray) (l : List Int) (z : Int) : Int := (((parks a b s z).filter fun x => !(decide (x ∈ l))).length : Int)
theorem room_bound (a b : Int) (s : ByteArray) (l : List Int) (z : Int) : 0 ≤ room a b s l z ∧ room a b s l z ≤ 64 := by
  unfold room
  have h1 := List.length_filter_le (fun x => !(decide (x ∈ l))) (parks a b s z)
  have h2 := parks_len a b s z
  omega
/-- The rooms of d zones, from zone z on. -/
noncomputable def roomsFrom (a b : Int) (s : ByteArray) (l : List Int) : Nat → Nat → List Int
  | 0, _ => []
  | d + 1, z => room a b s l (z : Int) :: roomsFrom a b s l d (z + 1)
theorem roomsFrom_len (a b : Int) (s : ByteArray) (l : List Int) : ∀ d z, (roomsFrom a b s l d z).length = d
  | 0, _ => rfl
  | d + 1, z => by simp [roomsFrom, roomsFrom_len a b s l d (z + 1)]
open Classical in
/-- What RoomsOf answers. -/
noncomputable def rooms (a b : Int) (s : ByteArray) (l : List Int) : List Int := if Gok a b s then roomsFrom a b s l 6 0 else []
theorem rooms_len (a b : Int) (s : ByteArray) (l : List Int) : (rooms a b s l).length ≤ 6 := by
  unfold rooms
  split
  · rw [roomsFrom_len]; omega
  · simp
theorem parksLeft_ev (a b : Int) (s : ByteArray) (hs : s.size ≤ 1048576) (l : List Int) (z : Int) : ∃ K, ∀ k, K ≤ k → impl_parksLeft.f k a b s z l = some ((parks a b s z).filter fun x => !(decide (x ∈ l))) := by
  obtain ⟨K, h⟩ := implParks_ev a b s hs z
  refine ⟨K, fun k hk => ?_⟩
  unfold impl_parksLeft.f
  rw [h k hk, Option.bind_some]
theorem implRooms_l0 (a b : Int) (s : ByteArray) (hs : s.size ≤ 1048576) (l : List Int) : ∀ (d i : Nat) (acc : List Int), i + d = 6 → acc.length ≤ i → ∃ K, ∀ k, K ≤ k → impl_RoomsOf.l0 k l acc (i : Int) a b s = some (acc ++ roomsFrom a b s l d i)
  | 0, i, acc, hi, ha => by
    refine ⟨1, fun k hk => ?_⟩
    obtain ⟨k, rfl⟩ : ∃ m, k = m + 1 := ⟨k - 1, by omega⟩
    simp only [impl_RoomsOf.l0]
    rw [if_neg (by omega)]
    simp [roomsFrom]
  | d + 1, i, acc, hi, ha => by
    obtain ⟨K1, h1⟩ := parksLeft_ev a b s hs l (i : Int)
    obtain ⟨K, h⟩ := implRooms_l0 a b s hs l d (i + 1) (acc ++ [room a b s l (i : Int)]) (by omega) (by simp; omega)
    have e9 : wrap64 ((i : Int) + 1) = ((i + 1 : Nat) : Int) := by rw [w64 (by omega) (by omega)]; rfl
    refine ⟨K + K1 + 1, fun k hk => ?_⟩
    obtain ⟨k, rfl⟩ : ∃ m, k = m + 1 := ⟨k - 1, by omega⟩
    simp only [impl_RoomsOf.l0]
    rw [if_pos (by omega), h1 k (by omega), Option.bind_some, if_pos (by omega), e9]
    have := h k (by omega)
    unfold room at this
    rw [this, roomsFrom, room]
    simp
theorem implRooms_ev (a b : Int) (s : ByteArray) (hs : s.size ≤ 1048576) (l : List Int) : ∃ K, ∀ k, K ≤ k → impl_RoomsOf.f k a b s l = some (rooms a b s l) := by
  obtain ⟨g, K1, h1, hg⟩ := gridOk_ev a b s hs
  obtain ⟨K, h⟩ := implRooms_l0 a b s hs l 6 0 [] (by omega) (by simp)
  refine ⟨K + K1, fun k hk => ?_⟩
  unfold impl_RoomsOf.f rooms
  rw [(h1 k (by omega)).2, Option.bind_some]
  cases g with
  | false => rw [if_neg (by decide), if_neg (fun h => absurd (hg.mpr h) (by decide))]
  | true =>
    have h0 := h k (by omega)
    rw [show ((0 : Nat) : Int) = 0 from rfl] at h0
    rw [if_pos rfl, if_pos (hg.mp rfl), h0]
    simp
theorem specRooms_l1 (a b : Int) (s : ByteArray) (l : List Int) (hl : l.length ≤ 1048576) (acc : List Int) (z : Int) (m : List Int) (hm : m.length ≤ 64) : ∀ (d i : Nat) (n : Int), i + d = m.length → 0 ≤ n → n ≤ i → ∃ K, ∀ k, K ≤ k → ∃ k', k ≤ k' + d + 1 ∧ k' ≤ k ∧ spec_RoomsOf.l1 k l acc z n m (i : Int) a b s = (if acc.length < 17592186044416 then (spec_RoomsOf.l0 k' l (acc ++ [n + (((m.drop i).filter fun x => !(decide (x ∈ l))).length : Int)]) (wrap64 (z + 1)) a b s) else none)
  | 0, i, n, hi, h0, hn => by
    refine ⟨1, fun k hk => ?_⟩
    obtain ⟨k, rfl⟩ : ∃ m, k = m + 1 := ⟨k - 1, by omega⟩
    refine ⟨k, by omega, by omega, ?_⟩
    simp only [spec_RoomsOf.l1]
    rw [if_neg (by omega), List.drop_of_length_le (by omega)]
    simp
  | d + 1, i, n, hi, h0, hn => by
    have hlt : i < m.length := by omega
    have e9 : wrap64 ((i : Int) + 1) = ((i + 1 : Nat) : Int) := by rw [w64 (by omega) (by omega)]; rfl
    have e8 : wrap64 (n + 1) = n + 1 := w64 (by omega) (by omega)
    obtain ⟨K1, h1⟩ := specRooms_l1 a b s l hl acc z m hm d (i + 1) n (by omega) h0 (by omega)
    obtain ⟨K2, h2⟩ := specRooms_l1 a b s l hl acc z m hm d (i + 1) (n + 1) (by omega) (by omega) (by omega)
    refine ⟨K1 + K2 + l.length + 2, fun k hk => ?_⟩
    obtain ⟨k, rfl⟩ : ∃ m, k = m + 1 := ⟨k - 1, by omega⟩
    simp only [spec_RoomsOf.l1]
    rw [if_pos (by omega), if_pos (by omega), has_eq l _ (by omega) k (by omega), Option.bind_some, e9, e8, drop_cons m i hlt, rd_get m i hlt, List.filter_cons]
    by_cases c : m[i] ∈ l
    · obtain ⟨k', q1, q2, q3⟩ := h1 k (by omega)
      refine ⟨k', by omega, by omega, ?_⟩
      rw [decide_eq_true c, if_pos rfl, q3]
      simp [c]
    · obtain ⟨k', q1, q2, q3⟩ := h2 k (by omega)
      refine ⟨k', by omega, by omega, ?_⟩
      rw [decide_eq_false c, if_neg (by decide), q3]
      simp only [Bool.not_false, reduceIte, List.length_cons]
      rw [show n + 1 + (((m.drop (i + 1)).filter fun x => !(decide (x ∈ l))).length : Int) = n + ((((m.drop (i + 1)).filter fun x => !(decide (x ∈ l))).length + 1 : Nat) : Int) by omega]
theorem specRooms_l0 (a b : Int) (s : ByteArray) (hs : s.size ≤ 1048576) (l : List Int) (hl : l.length ≤ 1048576) (hG : Gok a b s) : ∀ (d i : Nat) (acc : List Int), i + d = 6 → acc.length ≤ i → ∃ K, ∀ k, K ≤ k → spec_RoomsOf.l0 k l acc (i : Int) a b s = some (acc ++ roomsFrom a b s l d i)
  | 0, i, acc, hi, ha => by
    refine ⟨2, fun k hk => ?_⟩
    obtain ⟨k, rfl⟩ : ∃ m, k = m + 2 := ⟨k - 2, by omega⟩
    simp only [spec_RoomsOf.l0]
    rw [if_neg (by omega)]
    simp only [spec_RoomsOf.j1, Bool.false_eq_true, reduceIte]
    simp [roomsFrom]
  | d + 1, i, acc, hi, ha => by
    obtain ⟨g, K1, h1, hg⟩ := gridOk_ev a b s hs
    obtain rfl := hg.mpr hG
    obtain ⟨K2, h2⟩ := specParks_ev a b s hs (i : Int)
    obtain ⟨K3, h3⟩ := specRooms_l1 a b s l hl acc (i : Int) (parks a b s (i : Int)) (parks_len a b s _) (parks a b s (i : Int)).length 0 0 (by omega) (Int.le_refl _) (by omega)
    obtain ⟨K, h⟩ := specRooms_l0 a b s hs l hl hG d (i + 1) (acc ++ [room a b s l (i : Int)]) (by omega) (by simp; omega)
    have e9 : wrap64 ((i : Int) + 1) = ((i + 1 : Nat) : Int) := by rw [w64 (by omega) (by omega)]; rfl
    have hpl := parks_len a b s (i : Int)
    refine ⟨K + K1 + K2 + K3 + 70, fun k hk => ?_⟩
    obtain ⟨k, rfl⟩ : ∃ m, k = m + 2 := ⟨k - 2, by omega⟩
    simp only [spec_RoomsOf.l0]
    rw [if_pos (by omega), (h1 (k + 1) (by omega)).1, Option.bind_some]
    simp only [spec_RoomsOf.j1, reduceIte]
    rw [h2 k (by omega), Option.bind_some]
    obtain ⟨k', q1, q2, q3⟩ := h3 k (by omega)
    rw [show ((0 : Nat) : Int) = 0 from rfl, Int.zero_add, List.drop_zero] at q3
    rw [q3, if_pos (by omega), e9]
    have := h k' (by omega)
    unfold room at this
    rw [this, roomsFrom, room]
    simp
theorem specRooms_ev (a b : Int) (s : ByteArray) (hs : s.size ≤ 1048576) (l : List Int) (hl : l.length ≤ 1048576) : ∃ K, ∀ k, K ≤ k → spec_RoomsOf.f k a b s l = some (rooms a b s l) := by
  by_cases hG : Gok a b s
  · obtain ⟨K, h⟩ := specRooms_l0 a b s hs l hl hG 6 0 [] (by omega) (by simp)
    refine ⟨K, fun k hk => ?_⟩
    have h0 := h k hk
    rw [show ((0 : Nat) : Int) = 0 from rfl] at h0
    unfold spec_RoomsOf.f rooms
    rw [h0, if_pos hG]
    simp
  · obtain ⟨g, K1, h1, hg⟩ := gridOk_ev a b s hs
    have : g = false := by
      cases g with
      | false => rfl
      | true => exact absurd (hg.mp rfl) hG
    subst this
    refine ⟨K1 + 2, fun k hk => ?_⟩
    obtain ⟨k, rfl⟩ : ∃ m, k = m + 2 := ⟨k - 2, by omega⟩
    unfold spec_RoomsOf.f rooms
    simp only [spec_RoomsOf.l0]
    rw [if_pos (by omega), (h1 (k + 1) (by omega)).1, Option.bind_some, if_neg hG]
    simp only [spec_RoomsOf.j1, Bool.false_eq_true, reduceIte]
end Go.Proofs.Ytooofofeihkpcaa.Pure
