/- The plain facts of this claim, in their order. -/
import Derived.Test.YtkdemainohfgfaaQ0
import Derived.Test.YtkdemainohfgfaaQ2
import Derived.Test.YtkdemainohfgfaaQ7
import Derived.Test.YtkdemainohfgfaaQ8
import Derived.Test.YtkdemainohfgfaaQ6
import Derived.Test.YtkdemainohfgfaaQ3
import Derived.Test.YtkdemainohfgfaaQ9
import Derived.Test.YtkdemainohfgfaaQ4
import Derived.Test.YtkdemainohfgfaaQ11
import Derived.Test.YtkdemainohfgfaaQ5
import Derived.Test.YtkdemainohfgfaaQ1
set_option linter.unusedSimpArgs false
set_option linter.unusedSectionVars false
set_option linter.unusedVariables false
/- Plain facts that all the proofs share. -/
namespace Go.Proofs.Ytkdemainohfgfaa.Pure
open Go.RowKit Go.Proofs.Ytkdemainohfgfaa.Q Go.Proofs.YtkdemainohfgfaaW.PrintWords Go.Proofs.YtkdemainohfgfaaW.PrintLast

theorem w64 {x : Int} (h0 : -9223372036854775808 ≤ x) (h1 : x ≤ 9223372036854775807) : wrap64 x = x := by unfold wrap64; omega
theorem rd_get (l : List Int) (i : Nat) (h : i < l.length) : rd l (i : Int) = l[i] := by simp [rd, h]
theorem drop_cons {α : Type} (l : List α) (i : Nat) (h : i < l.length) : l.drop i = l[i] :: l.drop (i + 1) := List.drop_eq_getElem_cons h
def iota (m : Int) : Nat → List Int
 | 0 => []
 | d + 1 => m :: iota (m + 1) d
theorem iota_length : ∀ (m : Int) (d : Nat), (iota m d).length = d
 | _, 0 => rfl
 | m, d + 1 => by simp [iota, iota_length (m + 1) d]

end Go.Proofs.Ytkdemainohfgfaa.Pure
/- A number between two others. -/
namespace Go.Proofs.Ytkdemainohfgfaa.Pure
open Go.RowKit Go.Proofs.Ytkdemainohfgfaa.Q Go.Proofs.YtkdemainohfgfaaW.PrintWords Go.Proofs.YtkdemainohfgfaaW.PrintLast
theorem l01In_eq (a b c : Int) : spec_l01In.f a b c = some (decide (b ≤ a ∧ a ≤ c)) := by
 unfold spec_l01In.f
 by_cases h : a ≥ b
 ·rw [if_pos h]; congr 1; exact decide_eq_decide.mpr ⟨fun h2 => ⟨h, h2⟩, fun h2 => h2.2⟩
 ·rw [if_neg h, decide_eq_false (fun h2 => h h2.1)]
end Go.Proofs.Ytkdemainohfgfaa.Pure
/- Nets: when they are right, as the program and the reference tell it. -/
namespace Go.Proofs.Ytkdemainohfgfaa.Pure
open Go.RowKit Go.Proofs.Ytkdemainohfgfaa.Q Go.Proofs.YtkdemainohfgfaaW.PrintWords Go.Proofs.YtkdemainohfgfaaW.PrintLast
abbrev AI := S53
theorem rdA_get (l : List AI) (i : Nat) (h : i < l.length) : rd_T53 l (i : Int) = l[i] := by simp [rd_T53, h]
def Aok (n : Int) (x : AI) : Prop := (0 ≤ x.f0 ∧ x.f0 < n) ∧ (0 ≤ x.f1 ∧ x.f1 < n) ∧ x.f0 ≠ x.f1 ∧ (0 ≤ x.f2 ∧ x.f2 ≤ 20) ∧ (0 ≤ x.f3 ∧ x.f3 ≤ 100)
def AFrom (n : Int) (l : List AI) (i : Nat) : Prop := ∀ j : Nat, i ≤ j → (h : j < l.length) → Aok n l[j]
theorem AFrom_step (n : Int) (l : List AI) (i : Nat) (hi : i < l.length) : AFrom n l i ↔ Aok n l[i] ∧ AFrom n l (i + 1) := by
 constructor
 ·exact fun h => ⟨h i (Nat.le_refl _) hi, fun j h1 => h j (by omega)⟩
 ·rintro ⟨h0, h⟩ j h1 h2
  rcases Nat.eq_or_lt_of_le h1 with e | e
  ·subst e; exact h0
  ·exact h j e h2
def Nok (n : Int) (l : List AI) : Prop := (2 ≤ n ∧ n ≤ 1500) ∧ l.length ≤ 3200 ∧ AFrom n l 0
theorem net_l0 (n : Int) (l : List AI) (hn : 2 ≤ n ∧ n ≤ 1500) (hl : l.length ≤ 3200) : ∀ (d i : Nat), i + d = l.length → ∃ g K, (∀ k, K ≤ k → spec_NetOk.l0 k (i : Int) n l = some g ∧ impl_NetOk.l0 k l (l.length : Int) (i : Int) n l = some g) ∧ (g = true ↔ AFrom n l i)
 | 0, i, hi => by
  refine ⟨true, 1, fun k hk => ?_, ⟨fun _ j h1 h2 => by omega, fun _ => rfl⟩⟩
  obtain ⟨k, rfl⟩ : ∃ m, k = m + 1 := ⟨k - 1, by omega⟩
  have e1 : ¬ (i : Int) < (l.length : Int) := by omega
  simp only [spec_NetOk.l0, impl_NetOk.l0, e1, reduceIte, and_self]
 | d + 1, i, hi => by
  obtain ⟨g, K, h, hg⟩ := net_l0 n l hn hl d (i + 1) (by omega)
  have e1 : (i : Int) < (l.length : Int) := by omega
  have e2 : (0 : Int) ≤ i := by omega
  have e8 : wrap64 (n - 1) = n - 1 := w64 (by omega) (by omega)
  have e9 : wrap64 ((i : Int) + 1) = ((i + 1 : Nat) : Int) := by rw [w64 (by omega) (by omega)]; rfl
  rw [AFrom_step n l i (by omega)]
  have r1 := rdA_get l i (show i < l.length by omega)
  have hL : l[i]'(by omega) = l[i]'(by omega) := rfl
  generalize l[i]'(by omega) = x at r1 ⊢
  clear hL
  by_cases hA : Aok n x
  ·obtain ⟨⟨a1, a2⟩, ⟨a3, a4⟩, a5, ⟨a6, a7⟩, ⟨a8, a9⟩⟩ := id hA
   refine ⟨g, K + 2, fun k hk => ?_, by rw [hg]; exact ⟨fun h => ⟨hA, h⟩, fun h => h.2⟩⟩
   obtain ⟨k, rfl⟩ : ∃ m, k = m + 2 := ⟨k - 2, by omega⟩
   obtain ⟨h1, h2⟩ := h k (by omega)
   obtain ⟨h3, h4⟩ := h (k + 1) (by omega)
   have b1 : ¬ x.f0 < 0 := by clear h hg; omega
   have b2 : ¬ x.f0 ≥ n := by clear h hg; omega
   have b3 : ¬ x.f1 < 0 := by clear h hg; omega
   have b4 : ¬ x.f1 ≥ n := by clear h hg; omega
   have b6 : ¬ x.f2 < 0 := by clear h hg; omega
   have b7 : ¬ x.f2 > 20 := by clear h hg; omega
   have b8 : ¬ x.f3 < 0 := by clear h hg; omega
   have b9 : ¬ x.f3 > 100 := by clear h hg; omega
   have c1 : (0 ≤ x.f0 ∧ x.f0 ≤ n - 1) := by clear h hg; omega
   have c2 : (0 ≤ x.f1 ∧ x.f1 ≤ n - 1) := by clear h hg; omega
   have b5 : (x.f0 == x.f1) = false := by simpa using a5
   constructor
   ·clear h2
    rw [show k + 2 = (k + 1) + 1 from rfl]
    generalize k + 1 = k1 at h3 ⊢
    simp only [spec_NetOk.l0, r1, e1, e2, e9, e8, l01In_eq, Option.bind_some, c1, c2, a5, a6, a7, a8, a9, and_self, decide_true, reduceIte]
    exact h3
   ·simp only [impl_NetOk.l0, impl_NetOk.j2, r1, e1, e2, e9, b1, b2, b3, b4, b5, b6, b7, b8, b9, Bool.false_eq_true, reduceIte]
    exact h2
  ·refine ⟨false, 2, fun k hk => ?_, ⟨fun h => (by cases h), fun h => absurd h.1 hA⟩⟩
   obtain ⟨k, rfl⟩ : ∃ m, k = m + 2 := ⟨k - 2, by omega⟩
   clear h hg
   constructor
   ·simp only [spec_NetOk.l0, r1, e1, e2, e8, l01In_eq, Option.bind_some, reduceIte]
    by_cases c1 : (0 ≤ x.f0 ∧ x.f0 ≤ n - 1)
    ·by_cases c2 : (0 ≤ x.f1 ∧ x.f1 ≤ n - 1)
     ·by_cases c3 : x.f0 = x.f1
      ·rw [decide_eq_true c1, decide_eq_true c2]
       simp only [c3, reduceIte]
      ·by_cases c4 : (0 ≤ x.f2 ∧ x.f2 ≤ 20)
       ·by_cases c5 : (0 ≤ x.f3 ∧ x.f3 ≤ 100)
        ·exact absurd ⟨⟨c1.1, by omega⟩, ⟨c2.1, by omega⟩, c3, c4, c5⟩ hA
        ·rw [decide_eq_true c1, decide_eq_true c2, decide_eq_true c4, decide_eq_false c5]
         simp only [c3, Bool.false_eq_true, reduceIte]
       ·rw [decide_eq_true c1, decide_eq_true c2, decide_eq_false c4]
        simp only [c3, Bool.false_eq_true, reduceIte]
     ·rw [decide_eq_true c1, decide_eq_false c2]
      simp only [Bool.false_eq_true, reduceIte]
    ·rw [decide_eq_false c1]
     simp only [Bool.false_eq_true, reduceIte]
   ·simp only [impl_NetOk.l0, impl_NetOk.j2, r1, e1, e2, reduceIte]
    by_cases c1 : x.f0 < 0
    ·simp only [c1, reduceIte]
    ·by_cases c2 : x.f0 ≥ n
     ·simp only [c1, c2, reduceIte]
     ·by_cases c3 : x.f1 < 0
      ·simp only [c1, c2, c3, reduceIte]
      ·by_cases c4 : x.f1 ≥ n
       ·simp only [c1, c2, c3, c4, reduceIte]
       ·by_cases c5 : (x.f0 == x.f1) = true
        ·simp only [c1, c2, c3, c4, c5, reduceIte]
        ·by_cases c6 : x.f2 < 0
         ·simp only [c1, c2, c3, c4, c5, c6, Bool.false_eq_true, reduceIte]
         ·by_cases c7 : x.f2 > 20
          ·simp only [c1, c2, c3, c4, c5, c6, c7, Bool.false_eq_true, reduceIte]
          ·by_cases c8 : x.f3 < 0
           ·simp only [c1, c2, c3, c4, c5, c6, c7, c8, Bool.false_eq_true, reduceIte]
           ·by_cases c9 : x.f3 > 100
            ·simp only [c1, c2, c3, c4, c5, c6, c7, c8, c9, Bool.false_eq_true, reduceIte]
            ·exact absurd ⟨⟨by omega, by omega⟩, ⟨by omega, by omega⟩, by simpa using c5, ⟨by omega, by omega⟩, ⟨by omega, by omega⟩⟩ hA
theorem net_ev (n : Int) (l : List AI) (hl : l.length ≤ 1048576) : ∃ g K, (∀ k, K ≤ k → spec_NetOk.f k n l = some g ∧ impl_NetOk.f k n l = some g) ∧ (g = true ↔ Nok n l) := by
 by_cases hn : 2 ≤ n ∧ n ≤ 1500
 ·by_cases h3 : l.length ≤ 3200
  ·obtain ⟨g, K, h, hg⟩ := net_l0 n l hn h3 l.length 0 (by omega)
   refine ⟨g, K + 1, fun k hk => ?_, by rw [hg]; exact ⟨fun h => ⟨hn, h3, h⟩, fun h => h.2.2⟩⟩
   obtain ⟨k, rfl⟩ : ∃ m, k = m + 1 := ⟨k - 1, by omega⟩
   have b1 : ¬ n < 2 := by clear h hg; omega
   have b2 : ¬ n > 1500 := by clear h hg; omega
   have b3 : decide ((l.length : Int) > 3200) = false := decide_eq_false (by clear h hg; omega)
   unfold spec_NetOk.f impl_NetOk.f
   simp only [l01In_eq, hn, and_self, decide_true, Option.bind_some, b1, b2, b3, reduceIte]
   simp only [spec_NetOk.j0, impl_NetOk.j0, Bool.false_eq_true, reduceIte]
   exact h k (by omega)
  ·refine ⟨false, 1, fun k hk => ?_, ⟨fun h => (by cases h), fun h => absurd h.2.1 h3⟩⟩
   obtain ⟨k, rfl⟩ : ∃ m, k = m + 1 := ⟨k - 1, by omega⟩
   have b1 : ¬ n < 2 := by omega
   have b2 : ¬ n > 1500 := by omega
   have b3 : decide ((l.length : Int) > 3200) = true := decide_eq_true (by omega)
   unfold spec_NetOk.f impl_NetOk.f
   simp only [l01In_eq, hn, and_self, decide_true, Option.bind_some, b1, b2, b3, reduceIte]
   simp only [spec_NetOk.j0, impl_NetOk.j0, reduceIte, and_self]
 ·refine ⟨false, 1, fun k hk => ?_, ⟨fun h => (by cases h), fun h => absurd h.1 hn⟩⟩
  obtain ⟨k, rfl⟩ : ∃ m, k = m + 1 := ⟨k - 1, by omega⟩
  unfold spec_NetOk.f impl_NetOk.f
  rw [l01In_eq, Option.bind_some, decide_eq_false hn]
  simp only [Bool.false_eq_true, reduceIte]
  by_cases b1 : n < 2
  ·simp only [b1, spec_NetOk.j0, impl_NetOk.j0, reduceIte, and_self]
  ·have b2 : n > 1500 := by omega
   simp only [b1, b2, spec_NetOk.j0, impl_NetOk.j0, reduceIte, and_self]
theorem rd_setA (l : List Int) (z v : Int) (hz : 0 ≤ z) (hl : z < l.length) (i : Int) (hi : 0 ≤ i) : rd (l.set z.toNat v) i = if i = z then v else rd l i := by
 unfold rd
 rw [List.getD_eq_getElem?_getD, List.getD_eq_getElem?_getD, List.getElem?_set]
 by_cases e : i = z
 ·subst e
  rw [if_pos rfl, if_pos (by omega), if_pos rfl]; rfl
 ·rw [if_neg (by omega), if_neg e]
def FlFrom (l : List AI) (f : List Int) (i : Nat) : Prop := ∀ j : Nat, i ≤ j → (h : j < l.length) → 0 ≤ rd f (j : Int) ∧ rd f (j : Int) ≤ l[j].f2
end Go.Proofs.Ytkdemainohfgfaa.Pure
/- Shortest ways: a right labelling is the only one, its labels are those of ways of few steps, and it gives potentials anew. -/
namespace Go.Proofs.Ytkdemainohfgfaa.Pure
open Go.RowKit Go.Proofs.Ytkdemainohfgfaa.Q Go.Proofs.YtkdemainohfgfaaW.PrintWords Go.Proofs.YtkdemainohfgfaaW.PrintLast
inductive Wy (E : Nat → Nat → Int → Prop) : Nat → Int → Nat → Prop
 | zero : Wy E 0 0 0
 | step {u v : Nat} {x c : Int} {h : Nat} : Wy E u x h → x < 1152921504606846976 → E u v c → Wy E v (x + (10000 * c + 1)) (h + 1)
structure Okd (n : Nat) (E : Nat → Nat → Int → Prop) (d : List Int) : Prop where
 len : d.length = n
 zero : rd d ((0 : Nat) : Int) ≤ 0
 fin : ∀ v : Nat, v < n → rd d (v : Int) = 1152921504606846976 ∨ (rd d (v : Int) < 1152921504606846976 ∧ ∃ h, Wy E v (rd d (v : Int)) h)
structure Lab (n : Nat) (E : Nat → Nat → Int → Prop) (d : List Int) : Prop extends Okd n E d where
 tight : ∀ u v c, E u v c → rd d (u : Int) < 1152921504606846976 → rd d (v : Int) ≤ rd d (u : Int) + (10000 * c + 1)
theorem rd_ext (d e : List Int) (hl : d.length = e.length) (h : ∀ v : Nat, v < d.length → rd d (v : Int) = rd e (v : Int)) : d = e := by
 apply List.ext_getElem hl
 intro i h1 h2
 have := h i h1
 rwa [rd_get d i h1, rd_get e i h2] at this
theorem rd_setN (l : List Int) (i j : Nat) (v : Int) (hi : i < l.length) : rd (l.set i v) (j : Int) = if i = j then v else rd l (j : Int) := by
 unfold rd
 rw [Int.toNat_natCast, List.getD_eq_getElem?_getD, List.getD_eq_getElem?_getD, List.getElem?_set]
 by_cases e : i = j
 ·subst e; simp [hi]
 ·simp [e]
theorem lab_le {n : Nat} {E : Nat → Nat → Int → Prop} {d : List Int} (hL : Lab n E d) : ∀ {v x h}, Wy E v x h → rd d (v : Int) ≤ x := by
 intro v x h hw
 induction hw with
 | zero => exact hL.zero
 | step hw hx he ih => have := hL.tight _ _ _ he (by omega); omega
theorem lab_same {n : Nat} {E : Nat → Nat → Int → Prop} {d e : List Int} (hd : Lab n E d) (he : Okd n E e) (hf : ∀ v : Nat, v < n → rd d (v : Int) < 1152921504606846976 → rd e (v : Int) ≤ rd d (v : Int)) : e = d := by
 apply rd_ext
 ·rw [he.len, hd.len]
 ·intro v hv
  rw [he.len] at hv
  rcases hd.fin v hv with h1 | ⟨h1, _⟩ <;> rcases he.fin v hv with h2 | ⟨h2, _, hw⟩
  ·rw [h1, h2]
  ·have := lab_le hd hw; omega
  ·have := hf v hv h1; omega
  ·have := lab_le hd hw
   have := hf v hv h1
   omega
theorem lab_unique {n : Nat} {E : Nat → Nat → Int → Prop} {d e : List Int} (hd : Lab n E d) (he : Lab n E e) : e = d := lab_same hd he.toOkd (fun v hv h1 => by
 rcases hd.fin v hv with h | ⟨_, _, hw⟩
 ·omega
 ·exact lab_le he hw)
section
variable {n : Nat} {E : Nat → Nat → Int → Prop} (hn : n ≤ 1500) (hE : ∀ u v c, E u v c → (u < n ∧ v < n) ∧ -100 ≤ c ∧ c ≤ 100) (q : Nat → Int) (hq : ∀ u v c, E u v c → q v ≤ q u + c) (R : Int) (hR : ∀ v, 0 ≤ q v ∧ q v ≤ R)
include hq
theorem wy_pot : ∀ {v x h}, Wy E v x h → 10000 * q v - 10000 * q 0 + (h : Int) ≤ x := by
 intro v x h hw
 induction hw with
 | zero => omega
 | step hw hx he ih => have := hq _ _ _ he; omega
include hR
theorem okd_low {d : List Int} (h : Okd n E d) (v : Nat) (hv : v < n) : -(10000 * R) ≤ rd d (v : Int) ∨ rd d (v : Int) = 1152921504606846976 := by
 rcases h.fin v hv with h1 | ⟨_, k, hw⟩
 ·exact .inr h1
 ·have := wy_pot q hq hw
  have := hR v
  have := hR 0
  left; omega
theorem okd_zero {d : List Int} (h : Okd n E d) (h0 : 0 < n) : rd d ((0 : Nat) : Int) = 0 := by
 have := h.zero
 rcases h.fin 0 h0 with h1 | ⟨_, k, hw⟩
 ·omega
 ·have := wy_pot q hq hw
  omega
inductive Tw (E : Nat → Nat → Int → Prop) (d : List Int) : Nat → List Nat → Int → Prop
 | zero : Tw E d 0 [0] 0
 | step {u v : Nat} {L : List Nat} {p c : Int} : Tw E d u L p → rd d (u : Int) < 1152921504606846976 → E u v c → rd d (v : Int) = rd d (u : Int) + (10000 * c + 1) → Tw E d v (v :: L) (p + c)
end
section
variable {n : Nat} {E : Nat → Nat → Int → Prop} (hn : n ≤ 1500) (h0 : 0 < n) (hE : ∀ u v c, E u v c → (u < n ∧ v < n) ∧ -100 ≤ c ∧ c ≤ 100) (q : Nat → Int) (hq : ∀ u v c, E u v c → q v ≤ q u + c) (R : Int) (hR : ∀ v, 0 ≤ q v ∧ q v ≤ R) {d : List Int} (hL : Lab n E d)
theorem php : ∀ (n : Nat) (L : List Nat), L.Nodup → (∀ x ∈ L, x < n) → L.length ≤ n
 | 0, L, _, h => by
  cases L with
  | nil => simp
  | cons x xs => exact absurd (h x (by simp)) (by omega)
 | n + 1, L, hd, h => by
  have h1 : (L.filter (fun x => decide (x ≠ n))).length ≤ n := php n _ (hd.filter _) (fun x hx => by
   obtain ⟨h2, h3⟩ := List.mem_filter.mp hx
   have := h x h2
   have : x ≠ n := of_decide_eq_true h3
   omega)
  have h2 : L.length ≤ (L.filter (fun x => decide (x ≠ n))).length + 1 := by
   clear h h1
   induction L with
   | nil => simp
   | cons x xs ih =>
    obtain ⟨hx, hxs⟩ := List.nodup_cons.mp hd
    by_cases e : x = n
    ·subst e
     rw [List.filter_cons_of_neg (by simp), show xs.filter (fun y => decide (y ≠ x)) = xs from List.filter_eq_self.mpr (fun y hy => decide_eq_true (fun (e : y = x) => hx (e ▸ hy)))]
     simp
    ·rw [List.filter_cons_of_pos (by simpa using e), List.length_cons, List.length_cons]
     have := ih hxs
     omega
  omega
include hn h0 hE hq hR hL
theorem tw_facts : ∀ {v L p}, Tw E d v L p → rd d (v : Int) = 10000 * p + (L.length : Int) - 1 ∧ 1 ≤ L.length ∧ (∀ z ∈ L, z < n) ∧ L.Nodup ∧ (∀ z ∈ L, rd d (z : Int) - 10000 * q z ≤ rd d (v : Int) - 10000 * q v) ∧ -(100 * ((L.length : Int) - 1)) ≤ p ∧ p ≤ 100 * ((L.length : Int) - 1) ∧ Wy E v (rd d (v : Int)) (L.length - 1) := by
 intro v L p ht
 induction ht with
 | zero =>
  have hz := okd_zero q hq R hR hL.toOkd h0
  rw [hz]
  refine ⟨by simp, by simp, fun z hz => ?_, by simp, fun z hz2 => ?_, by simp, by simp, Wy.zero⟩
  ·simp at hz; omega
  ·simp at hz2; subst hz2; rw [hz]; exact Int.le_refl _
 | @step u v L p c ht hu he hd ih =>
  obtain ⟨i1, i2, i3, i4, i5, i6, i7, i8⟩ := ih
  have hc := hE _ _ _ he
  have hp := hq _ _ _ he
  have hlt : ∀ z ∈ L, rd d (z : Int) - 10000 * q z < rd d (v : Int) - 10000 * q v := fun z hz => by have := i5 z hz; omega
  refine ⟨by rw [List.length_cons]; omega, by simp, fun z hz => ?_, List.nodup_cons.mpr ⟨fun hv => by have := hlt v hv; omega, i4⟩, fun z hz => ?_, by rw [List.length_cons]; omega, by rw [List.length_cons]; omega, ?_⟩
  ·rcases List.mem_cons.mp hz with e | e
   ·rw [e]; exact hc.1.2
   ·exact i3 z e
  ·rcases List.mem_cons.mp hz with e | e
   ·rw [e]; exact Int.le_refl _
   ·have := hlt z e; omega
  ·rw [hd, List.length_cons, Nat.add_sub_cancel, show L.length = (L.length - 1) + 1 by omega]
   exact Wy.step i8 hu he
theorem tw_ex : ∀ {v x h}, Wy E v x h → rd d (v : Int) = x → ∃ L p, Tw E d v L p := by
 intro v x h hw
 induction hw with
 | zero => exact fun _ => ⟨_, _, Tw.zero⟩
 | @step u v x c h hw hx he ih =>
  intro hd
  have h1 := lab_le hL hw
  have h2 := hL.tight _ _ _ he (by omega)
  have hu : rd d (u : Int) = x := by omega
  obtain ⟨L, p, ht⟩ := ih hu
  exact ⟨_, _, Tw.step ht (by omega) he (by omega)⟩
theorem lab_few (v : Nat) (hv : v < n) (hf : rd d (v : Int) < 1152921504606846976) : ∃ (p : Int) (h : Nat), rd d (v : Int) = 10000 * p + (h : Int) ∧ h < n ∧ -(100 * (h : Int)) ≤ p ∧ p ≤ 100 * (h : Int) ∧ Wy E v (rd d (v : Int)) h := by
 rcases hL.fin v hv with h1 | ⟨_, k, hw⟩
 ·omega
 ·obtain ⟨L, p, ht⟩ := tw_ex hn h0 hE q hq R hR hL hw rfl
  obtain ⟨i1, i2, i3, i4, i5, i6, i7, i8⟩ := tw_facts hn h0 hE q hq R hR hL ht
  have := php n L i4 i3
  exact ⟨p, L.length - 1, by omega, by omega, by omega, by omega, i8⟩
theorem lab_step (v : Nat) (hv : v < n) (hv0 : v ≠ 0) (hf : rd d (v : Int) < 1152921504606846976) : ∃ u c, E u v c ∧ rd d (u : Int) < 1152921504606846976 ∧ rd d (v : Int) = rd d (u : Int) + (10000 * c + 1) := by
 rcases hL.fin v hv with h1 | ⟨_, k, hw⟩
 ·omega
 ·obtain ⟨L, p, ht⟩ := tw_ex hn h0 hE q hq R hR hL hw rfl
  cases ht with
  | zero => exact absurd rfl hv0
  | step ht hu he hd => exact ⟨_, _, he, hu, hd⟩
def pot (n : Nat) (q : Nat → Int) (d : List Int) (v : Nat) : Int := if rd d (v : Int) < 1152921504606846976 then rd d (v : Int) / 10000 + 100 * n else q v + 200 * n
theorem pot_fin (v : Nat) (hv : v < n) (hf : rd d (v : Int) < 1152921504606846976) : ∃ h : Nat, h < n ∧ rd d (v : Int) = 10000 * (pot n q d v - 100 * n) + (h : Int) ∧ -(100 * (h : Int)) ≤ pot n q d v - 100 * n ∧ pot n q d v - 100 * n ≤ 100 * (h : Int) := by
 obtain ⟨p, h, h1, h2, h3, h4, _⟩ := lab_few hn h0 hE q hq R hR hL v hv hf
 have hp : pot n q d v - 100 * n = p := by
  unfold pot
  rw [if_pos hf, h1]
  omega
 exact ⟨h, h2, by rw [hp]; exact h1, by rw [hp]; exact h3, by rw [hp]; exact h4⟩
theorem pot_not (v : Nat) (hf : ¬ rd d (v : Int) < 1152921504606846976) : pot n q d v = q v + 200 * n := by unfold pot; rw [if_neg hf]
theorem pot_range (v : Nat) (hv : v < n) : 0 ≤ pot n q d v ∧ pot n q d v ≤ R + 200 * n := by
 have := hR v
 by_cases hf : rd d (v : Int) < 1152921504606846976
 ·obtain ⟨h, h1, h2, h3, h4⟩ := pot_fin hn h0 hE q hq R hR hL v hv hf
  omega
 ·rw [pot_not hn h0 hE q hq R hR hL v hf]; omega
theorem pot_step (u v : Nat) (c : Int) (he : E u v c) : pot n q d v ≤ pot n q d u + c := by
 obtain ⟨⟨hu, hv⟩, hc⟩ := hE _ _ _ he
 by_cases fu : rd d (u : Int) < 1152921504606846976
 ·obtain ⟨a, a1, a2, a3, a4⟩ := pot_fin hn h0 hE q hq R hR hL u hu fu
  have ht := hL.tight _ _ _ he fu
  obtain ⟨b, b1, b2, b3, b4⟩ := pot_fin hn h0 hE q hq R hR hL v hv (by omega)
  omega
 ·rw [pot_not hn h0 hE q hq R hR hL u fu]
  by_cases fv : rd d (v : Int) < 1152921504606846976
  ·obtain ⟨b, b1, b2, b3, b4⟩ := pot_fin hn h0 hE q hq R hR hL v hv fv
   have := hR u
   omega
  ·rw [pot_not hn h0 hE q hq R hR hL v fv]
   have := hq _ _ _ he
   omega
theorem pot_tight (u v : Nat) (c : Int) (he : E u v c) (fu : rd d (u : Int) < 1152921504606846976) (hd : rd d (v : Int) = rd d (u : Int) + (10000 * c + 1)) : pot n q d v = pot n q d u + c := by
 obtain ⟨⟨hu, hv⟩, hc⟩ := hE _ _ _ he
 obtain ⟨a, a1, a2, a3, a4⟩ := pot_fin hn h0 hE q hq R hR hL u hu fu
 obtain ⟨b, b1, b2, b3, b4⟩ := pot_fin hn h0 hE q hq R hR hL v hv (by omega)
 omega
end
end Go.Proofs.Ytkdemainohfgfaa.Pure
/- The steps of a net's residual network, and the lists of those that leave and enter each node. -/
namespace Go.Proofs.Ytkdemainohfgfaa.Pure
open Go.RowKit Go.Proofs.Ytkdemainohfgfaa.Q Go.Proofs.YtkdemainohfgfaaW.PrintWords Go.Proofs.YtkdemainohfgfaaW.PrintLast
abbrev ST := S57
abbrev rdA (l : List AI) (i : Int) : AI := rd_T53 l i
def stp2 (i : Nat) : List ST := [⟨(i : Int), false⟩, ⟨(i : Int), true⟩]
def stps : Nat → List ST
 | 0 => []
 | m + 1 => stps m ++ stp2 m
def stFrom (l : List AI) (s : ST) : Int := if s.f1 = true then (rdA l s.f0).f1 else (rdA l s.f0).f0
def stTo (l : List AI) (s : ST) : Int := if s.f1 = true then (rdA l s.f0).f0 else (rdA l s.f0).f1
def stPr (l : List AI) (s : ST) : Int := if s.f1 = true then -(rdA l s.f0).f3 else (rdA l s.f0).f3
def stRm (l : List AI) (f : List Int) (s : ST) : Int := if s.f1 = true then rd f s.f0 else (rdA l s.f0).f2 - rd f s.f0
theorem stps_len : ∀ m, (stps m).length = 2 * m
 | 0 => rfl
 | m + 1 => by rw [stps, List.length_append, stps_len m]; simp [stp2]; omega
theorem mem_stps (s : ST) : ∀ m, s ∈ stps m ↔ ∃ i : Nat, i < m ∧ s.f0 = (i : Int)
 | 0 => by simp [stps]
 | m + 1 => by
  rw [stps, List.mem_append, mem_stps s m]
  constructor
  ·rintro (⟨i, h1, h2⟩ | h)
   ·exact ⟨i, by omega, h2⟩
   ·simp only [stp2, List.mem_cons, List.not_mem_nil, or_false] at h
    rcases h with rfl | rfl
    ·exact ⟨m, by omega, rfl⟩
    ·exact ⟨m, by omega, rfl⟩
  ·rintro ⟨i, h1, h2⟩
   by_cases e : i = m
   ·right
    subst e
    obtain ⟨a, b⟩ := s
    simp only at h2
    subst h2
    cases b <;> simp [stp2]
   ·exact .inl ⟨i, by omega, h2⟩
def Res (l : List AI) (f : List Int) (u v : Nat) (c : Int) : Prop := ∃ s ∈ stps l.length, 0 < stRm l f s ∧ stFrom l s = (u : Int) ∧ stTo l s = (v : Int) ∧ stPr l s = c
section
variable {n : Int} {l : List AI} (hN : Nok n l) {s : ST} (hs : s ∈ stps l.length)
include hN hs
theorem st_arc : ∃ i : Nat, ∃ h : i < l.length, s.f0 = (i : Int) ∧ rdA l s.f0 = l[i] ∧ Aok n l[i] := by
 obtain ⟨i, h1, h2⟩ := (mem_stps s l.length).mp hs
 exact ⟨i, h1, h2, by rw [h2]; exact rdA_get l i h1, hN.2.2 i (Nat.zero_le _) h1⟩
theorem st_facts : (0 ≤ stFrom l s ∧ stFrom l s < n) ∧ (0 ≤ stTo l s ∧ stTo l s < n) ∧ stFrom l s ≠ stTo l s ∧ -100 ≤ stPr l s ∧ stPr l s ≤ 100 := by
 obtain ⟨i, h, h1, h2, ⟨a1, a2⟩, ⟨b1, b2⟩, hne, _, ⟨c1, c2⟩⟩ := st_arc hN hs
 unfold stFrom stTo stPr
 rw [h2]
 cases s.f1 <;> simp only [Bool.false_eq_true, reduceIte]
 ·exact ⟨⟨a1, a2⟩, ⟨b1, b2⟩, hne, by omega, c2⟩
 ·exact ⟨⟨b1, b2⟩, ⟨a1, a2⟩, hne.symm, by omega, by omega⟩
theorem ends_ev : impl_step_ends.f s.f0 s.f1 n l = some (stFrom l s, stTo l s) := by
 obtain ⟨i, h, h1, _⟩ := st_arc hN hs
 unfold impl_step_ends.f
 rw [if_pos (by omega), if_pos (by omega)]
 unfold stFrom stTo
 cases s.f1 <;> rfl
theorem length_ev : impl_step_length.f s.f0 s.f1 n l = some (10000 * stPr l s + 1) := by
 obtain ⟨i, h, h1, h2, _, _, _, _, ⟨c1, c2⟩⟩ := st_arc hN hs
 unfold impl_step_length.f
 rw [if_pos (by omega), if_pos (by omega)]
 unfold stPr
 rw [show rd_T53 l s.f0 = l[i] from h2, show rdA l s.f0 = l[i] from h2, w64 (x := 10000 * l[i].f3) (by omega) (by omega), w64 (x := 1 - 10000 * l[i].f3) (by omega) (by omega), w64 (x := 10000 * l[i].f3 + 1) (by omega) (by omega)]
 cases s.f1
 ·rw [if_neg (by decide), if_neg (by decide)]
 ·rw [if_pos rfl, if_pos rfl]
  congr 1
  omega
theorem room_ev (f : List Int) (hf : f.length = l.length) (hfl : FlFrom l f 0) : impl_step_room.f s.f0 s.f1 n l f = some (stRm l f s) ∧ 0 ≤ stRm l f s := by
 obtain ⟨i, h, h1, h2, _, _, _, ⟨c1, c2⟩, _⟩ := st_arc hN hs
 have hx := hfl i (Nat.zero_le _) h
 rw [← h1] at hx
 unfold impl_step_room.f stRm
 rw [show rd_T53 l s.f0 = l[i] from h2, show rdA l s.f0 = l[i] from h2]
 cases s.f1
 ·simp only [Bool.false_eq_true, reduceIte]
  rw [if_pos (by omega), if_pos (by omega), if_pos (by omega), w64 (by omega) (by omega)]
  exact ⟨rfl, by omega⟩
 ·simp only [reduceIte]
  rw [if_pos (by omega), if_pos (by omega)]
  exact ⟨rfl, by omega⟩
end
theorem res_ok {n : Int} {l : List AI} (hN : Nok n l) (f : List Int) (u v : Nat) (c : Int) (h : Res l f u v c) : (u < n.toNat ∧ v < n.toNat) ∧ -100 ≤ c ∧ c ≤ 100 := by
 obtain ⟨s, hs, _, h1, h2, h3⟩ := h
 have := st_facts hN hs
 have := hN.1
 omega
def grp (g : ST → Int) (n : Nat) (L : List ST) : List (List ST) := (List.range n).map fun u => L.filter (fun s => decide (g s = ((u : Nat) : Int)))
theorem grp_len (g : ST → Int) (n : Nat) (L : List ST) : (grp g n L).length = n := by simp [grp]
theorem grp_rd (g : ST → Int) (n : Nat) (L : List ST) (u : Int) (h0 : 0 ≤ u) (h1 : u < n) : rd_L5 (grp g n L) u = L.filter (fun s => decide (g s = u)) := by
 obtain ⟨u, rfl⟩ := Int.eq_ofNat_of_zero_le h0
 have h2 : u < n := by omega
 simp [rd_L5, grp, h2]
theorem grp_snoc (g : ST → Int) (n : Nat) (L : List ST) (s : ST) (h0 : 0 ≤ g s) (h1 : g s < n) : (grp g n L).set (g s).toNat (rd_L5 (grp g n L) (g s) ++ [s]) = grp g n (L ++ [s]) := by
 rw [grp_rd g n L _ h0 h1]
 apply List.ext_getElem
 ·rw [List.length_set, grp_len, grp_len]
 ·intro i h2 h3
  rw [List.length_set, grp_len] at h2
  rw [List.getElem_set]
  by_cases e : (g s).toNat = i
  ·rw [if_pos e]
   have e2 : g s = ((i : Nat) : Int) := by omega
   simp only [grp, List.getElem_map, List.getElem_range, List.filter_append, e2]
   congr 1
   simp [e2]
  ·rw [if_neg e]
   have e2 : ¬ g s = ((i : Nat) : Int) := by omega
   simp only [grp, List.getElem_map, List.getElem_range, List.filter_append]
   rw [List.filter_cons_of_neg (by simpa using e2), List.filter_nil, List.append_nil]
theorem grp_nil (g : ST → Int) (n : Nat) : grp g n [] = List.replicate n [] := by
 apply List.ext_getElem
 ·simp [grp]
 ·intro i h1 h2; simp [grp]
section
variable {n : Int} {l : List AI} (hN : Nok n l)
include hN
theorem so_step (L : List ST) (hL : L.length ≤ 6400) (y : List ST) (i : Int) (j : Nat) (hj : j < y.length) (hy : y.length ≤ 2) (hs : y[j] ∈ stps l.length) (k : Nat) :
  impl_stepsOf.l1 (k + 1) (grp (stFrom l) n.toNat L) (grp (stTo l) n.toNat L) (l.length : Int) i y (y.length : Int) (j : Int) n l = impl_stepsOf.l1 k (grp (stFrom l) n.toNat (L ++ [y[j]])) (grp (stTo l) n.toNat (L ++ [y[j]])) (l.length : Int) i y (y.length : Int) ((j + 1 : Nat) : Int) n l := by
 have hr : rd_T57 y (j : Int) = y[j] := by simp [rd_T57, hj]
 have e9 : wrap64 ((j : Int) + 1) = ((j + 1 : Nat) : Int) := by rw [w64 (by omega) (by omega)]; rfl
 obtain ⟨⟨f1, f2⟩, ⟨t1, t2⟩, _⟩ := st_facts hN hs
 have hn := hN.1
 have g1 := grp_rd (stFrom l) n.toNat L _ f1 (by omega)
 have g2 := grp_rd (stTo l) n.toNat L _ t1 (by omega)
 have b1 := List.length_filter_le (fun s => decide (stFrom l s = stFrom l y[j])) L
 have b2 := List.length_filter_le (fun s => decide (stTo l s = stTo l y[j])) L
 rw [impl_stepsOf.l1, if_pos (by omega), if_pos (by omega), if_pos (by omega), hr, ends_ev hN hs, Option.bind_some]
 simp only
 rw [if_pos f1, if_pos (by rw [grp_len]; omega), if_pos (by rw [g1]; omega), if_pos t1, if_pos (by rw [grp_len]; omega), if_pos (by rw [g2]; omega), grp_snoc _ _ _ _ f1 (by omega), grp_snoc _ _ _ _ t1 (by omega), e9]
theorem so_l0 : ∀ (d i : Nat), i + d = l.length → ∃ K, ∀ k, K ≤ k → impl_stepsOf.l0 k (grp (stFrom l) n.toNat (stps i)) (grp (stTo l) n.toNat (stps i)) (l.length : Int) (i : Int) n l = some (grp (stFrom l) n.toNat (stps l.length), grp (stTo l) n.toNat (stps l.length))
 | 0, i, hi => by
  refine ⟨1, fun k hk => ?_⟩
  obtain ⟨k, rfl⟩ : ∃ m, k = m + 1 := ⟨k - 1, by omega⟩
  obtain rfl : i = l.length := by omega
  rw [impl_stepsOf.l0, if_neg (by omega)]
 | d + 1, i, hi => by
  obtain ⟨K, h⟩ := so_l0 d (i + 1) (by omega)
  have hl := hN.2.1
  have e9 : wrap64 ((i : Int) + 1) = ((i + 1 : Nat) : Int) := by rw [w64 (by omega) (by omega)]; rfl
  refine ⟨K + 4, fun k hk => ?_⟩
  obtain ⟨k, rfl⟩ : ∃ m, k = m + 4 := ⟨k - 4, by omega⟩
  have m0 : ∀ b, (⟨(i : Int), b⟩ : ST) ∈ stps l.length := fun b => (mem_stps _ _).mpr ⟨i, by omega, rfl⟩
  have len0 : (stps i).length ≤ 6398 := by rw [stps_len]; omega
  rw [impl_stepsOf.l0, if_pos (by omega), Option.bind_some]
  have s0 := so_step hN (stps i) (by omega) (stp2 i) (i : Int) 0 (by simp [stp2]) (by simp [stp2]) (m0 false) (k + 2)
  have s1 := so_step hN (stps i ++ [(stp2 i)[0]'(by simp [stp2])]) (by rw [List.length_append, List.length_singleton]; omega) (stp2 i) (i : Int) 1 (by simp [stp2]) (by simp [stp2]) (m0 true) (k + 1)
  have e3 : stps i ++ [(stp2 i)[0]'(by simp [stp2])] ++ [(stp2 i)[1]'(by simp [stp2])] = stps (i + 1) := by rw [stps, List.append_assoc]; rfl
  rw [e3] at s1
  refine Eq.trans (Eq.trans s0 s1) ?_
  rw [impl_stepsOf.l1, if_neg (by simp [stp2]), e9]
  exact h k (by omega)
theorem so_ev : ∃ K, ∀ k, K ≤ k → impl_stepsOf.f k n l = some (grp (stFrom l) n.toNat (stps l.length), grp (stTo l) n.toNat (stps l.length)) := by
 obtain ⟨K, h⟩ := so_l0 hN l.length 0 (by omega)
 have hn := hN.1
 refine ⟨K, fun k hk => ?_⟩
 unfold impl_stepsOf.f
 rw [if_pos (by omega), if_pos (by omega)]
 have := h k hk
 rw [show stps 0 = [] from rfl, grp_nil, grp_nil] at this
 exact this
end
end Go.Proofs.Ytkdemainohfgfaa.Pure
/- The reference's labels: round by round along all arcs, they come to the right labelling. -/
namespace Go.Proofs.Ytkdemainohfgfaa.Pure
open Go.RowKit Go.Proofs.Ytkdemainohfgfaa.Q Go.Proofs.YtkdemainohfgfaaW.PrintWords Go.Proofs.YtkdemainohfgfaaW.PrintLast
def rc (l : List AI) (f d : List Int) (s : ST) : Bool := decide (0 < stRm l f s ∧ rd d (stFrom l s) < 1152921504606846976 ∧ rd d (stFrom l s) + (10000 * stPr l s + 1) < rd d (stTo l s))
def rlx (l : List AI) (f d : List Int) (s : ST) : List Int := if rc l f d s = true then d.set (stTo l s).toNat (rd d (stFrom l s) + (10000 * stPr l s + 1)) else d
theorem rlx_len (l : List AI) (f d : List Int) (s : ST) : (rlx l f d s).length = d.length := by unfold rlx; split <;> simp
def Bnd (n : Int) (d : List Int) : Prop := (d.length : Int) = n ∧ ∀ v : Int, 0 ≤ v → v < n → -1000000000000 ≤ rd d v ∧ rd d v ≤ 1152921504606846976
section
variable {n : Int} {l : List AI} (hN : Nok n l) (f : List Int) (hf : f.length = l.length)
theorem arcF (i : Nat) (h : i < l.length) : stFrom l ⟨(i : Int), false⟩ = l[i].f0 ∧ stTo l ⟨(i : Int), false⟩ = l[i].f1 ∧ stPr l ⟨(i : Int), false⟩ = l[i].f3 ∧ stRm l f ⟨(i : Int), false⟩ = l[i].f2 - rd f (i : Int) := by
 have := rdA_get l i h
 unfold stFrom stTo stPr stRm rdA
 simp only [Bool.false_eq_true, reduceIte, this, and_self]
theorem arcB (i : Nat) (h : i < l.length) : stFrom l ⟨(i : Int), true⟩ = l[i].f1 ∧ stTo l ⟨(i : Int), true⟩ = l[i].f0 ∧ stPr l ⟨(i : Int), true⟩ = -l[i].f3 ∧ stRm l f ⟨(i : Int), true⟩ = rd f (i : Int) := by
 have := rdA_get l i h
 unfold stFrom stTo stPr stRm rdA
 simp only [reduceIte, this, and_self]
include hN hf
theorem far_back (i : Nat) (h : i < l.length) (y : List Int) (hy : Bnd n y) (r : Int) (b : Bool) (k : Nat) :
  (if rd f (i : Int) > 0 then (if rd y l[i].f1 < 1152921504606846976 then (if (wrap64 ((wrap64 (rd y l[i].f1 - (10000 * l[i].f3))) + 1)) < rd y l[i].f0 then spec_l08Far.l2 k f (y.set (l[i].f0).toNat (wrap64 ((wrap64 (rd y l[i].f1 - (10000 * l[i].f3))) + 1))) r true (wrap64 ((i : Int) + 1)) n l else spec_l08Far.l2 k f y r b (wrap64 ((i : Int) + 1)) n l) else spec_l08Far.l2 k f y r b (wrap64 ((i : Int) + 1)) n l) else spec_l08Far.l2 k f y r b (wrap64 ((i : Int) + 1)) n l)
   = spec_l08Far.l2 k f (rlx l f y ⟨(i : Int), true⟩) r (rc l f y ⟨(i : Int), true⟩ || b) ((i + 1 : Nat) : Int) n l := by
 obtain ⟨⟨a1, a2⟩, ⟨b1, b2⟩, _, ⟨r1, r2⟩, ⟨c1, c2⟩⟩ := hN.2.2 i (Nat.zero_le _) h
 have hl := hN.2.1
 obtain ⟨e1, e2, e3, e4⟩ := arcB f i h
 obtain ⟨v1, v2⟩ := hy.2 _ b1 b2
 have e9 : wrap64 ((i : Int) + 1) = ((i + 1 : Nat) : Int) := by rw [w64 (by omega) (by omega)]; rfl
 have ew : wrap64 ((wrap64 (rd y l[i].f1 - (10000 * l[i].f3))) + 1) = rd y l[i].f1 + (10000 * -l[i].f3 + 1) := by
  rw [w64 (x := rd y l[i].f1 - (10000 * l[i].f3)) (by omega) (by omega), w64 (by omega) (by omega)]; omega
 rw [e9, ew]
 clear ew e9
 unfold rlx rc
 rw [e1, e2, e3, e4]
 by_cases q1 : rd f (i : Int) > 0
 ·by_cases q2 : rd y l[i].f1 < 1152921504606846976
  ·by_cases q3 : rd y l[i].f1 + (10000 * -l[i].f3 + 1) < rd y l[i].f0
   ·rw [if_pos q1, if_pos q2, if_pos q3, decide_eq_true ⟨q1, q2, q3⟩, if_pos rfl, Bool.true_or]
   ·rw [if_pos q1, if_pos q2, if_neg q3, decide_eq_false (fun h => q3 h.2.2), if_neg (by decide), Bool.false_or]
  ·rw [if_pos q1, if_neg q2, decide_eq_false (fun h => q2 h.2.1), if_neg (by decide), Bool.false_or]
 ·rw [if_neg q1, decide_eq_false (fun h => q1 h.1), if_neg (by decide), Bool.false_or]
theorem far_j3 (i : Nat) (h : i < l.length) (d : List Int) (hd : Bnd n d) (hd2 : Bnd n (rlx l f d ⟨(i : Int), false⟩)) (r : Int) (b : Bool) (k : Nat) :
  spec_l08Far.j3 (k + 1) f d r b (i : Int) (10000 * l[i].f3) (rc l f d ⟨(i : Int), false⟩) n l l[i].f0 l[i].f1 l[i].f2 l[i].f3
   = spec_l08Far.l2 k f (rlx l f (rlx l f d ⟨(i : Int), false⟩) ⟨(i : Int), true⟩) r (rc l f (rlx l f d ⟨(i : Int), false⟩) ⟨(i : Int), true⟩ || (rc l f d ⟨(i : Int), false⟩ || b)) ((i + 1 : Nat) : Int) n l := by
 obtain ⟨⟨a1, a2⟩, ⟨b1, b2⟩, _, ⟨r1, r2⟩, ⟨c1, c2⟩⟩ := hN.2.2 i (Nat.zero_le _) h
 have hl := hN.2.1
 have hdl := hd.1
 obtain ⟨e1, e2, e3, e4⟩ := arcF f i h
 obtain ⟨u1, u2⟩ := hd.2 _ a1 a2
 rw [← far_back hN f hf i h _ hd2 r _ k]
 cases hb : rc l f d ⟨(i : Int), false⟩ with
 | true =>
  have hr : rlx l f d ⟨(i : Int), false⟩ = d.set (l[i].f1).toNat (rd d l[i].f0 + (10000 * l[i].f3 + 1)) := by unfold rlx; rw [if_pos hb, e1, e2, e3]
  have ew : wrap64 ((wrap64 (rd d l[i].f0 + (10000 * l[i].f3))) + 1) = rd d l[i].f0 + (10000 * l[i].f3 + 1) := by
   have hlt : rd d l[i].f0 < 1152921504606846976 := by
    have := of_decide_eq_true hb
    rw [e1] at this
    exact this.2.1
   rw [w64 (x := rd d l[i].f0 + (10000 * l[i].f3)) (by omega) (by omega), w64 (by omega) (by omega)]; omega
  rw [spec_l08Far.j3, if_pos rfl, if_pos a1, if_pos (by omega), if_pos b1, if_pos (by omega), ew, Option.bind_some, ← hr, if_pos (by omega), if_pos (by omega), Bool.true_or]
 | false =>
  have hr : rlx l f d ⟨(i : Int), false⟩ = d := by unfold rlx; rw [if_neg (by rw [hb]; decide)]
  rw [spec_l08Far.j3, if_neg (by decide), if_pos (by omega), if_pos (by omega), hr, Bool.false_or]
  by_cases q1 : rd f (i : Int) > 0
  ·rw [if_pos q1, if_pos q1, if_pos b1, if_pos (by omega)]
   by_cases q2 : rd d l[i].f1 < 1152921504606846976
   ·rw [if_pos q2, if_pos q2, if_pos a1, if_pos (by omega)]
   ·rw [if_neg q2, if_neg q2]
  ·rw [if_neg q1, if_neg q1]
theorem far_arc (i : Nat) (h : i < l.length) (d : List Int) (hd : Bnd n d) (hd2 : Bnd n (rlx l f d ⟨(i : Int), false⟩)) (r : Int) (b : Bool) (k : Nat) :
  spec_l08Far.l2 (k + 2) f d r b (i : Int) n l
   = spec_l08Far.l2 k f (rlx l f (rlx l f d ⟨(i : Int), false⟩) ⟨(i : Int), true⟩) r (rc l f (rlx l f d ⟨(i : Int), false⟩) ⟨(i : Int), true⟩ || (rc l f d ⟨(i : Int), false⟩ || b)) ((i + 1 : Nat) : Int) n l := by
 rw [← far_j3 hN f hf i h d hd hd2 r b k]
 obtain ⟨⟨a1, a2⟩, ⟨b1, b2⟩, _, ⟨r1, r2⟩, ⟨c1, c2⟩⟩ := hN.2.2 i (Nat.zero_le _) h
 have hl := hN.2.1
 have hdl := hd.1
 obtain ⟨e1, e2, e3, e4⟩ := arcF f i h
 obtain ⟨u1, u2⟩ := hd.2 _ a1 a2
 have hx := rdA_get l i h
 have ec : wrap64 (10000 * l[i].f3) = 10000 * l[i].f3 := w64 (by omega) (by omega)
 rw [spec_l08Far.l2, if_pos (by omega), if_pos (by omega), if_pos (by omega), hx, ec]
 clear ec
 unfold rc
 rw [e1, e2, e3, e4]
 by_cases q1 : rd f (i : Int) < l[i].f2
 ·rw [if_pos q1, if_pos a1, if_pos (by omega)]
  by_cases q2 : rd d l[i].f0 < 1152921504606846976
  ·have ew : wrap64 ((wrap64 (rd d l[i].f0 + (10000 * l[i].f3))) + 1) = rd d l[i].f0 + (10000 * l[i].f3 + 1) := by
    rw [w64 (x := rd d l[i].f0 + (10000 * l[i].f3)) (by omega) (by omega), w64 (by omega) (by omega)]; omega
   rw [if_pos q2, if_pos b1, if_pos (by omega), ew]
   clear ew
   congr 1
   exact decide_eq_decide.mpr ⟨fun h => ⟨by omega, q2, h⟩, fun h => h.2.2⟩
  ·rw [if_neg q2, decide_eq_false (fun h => q2 h.2.1)]
 ·rw [if_neg q1, decide_eq_false (fun h => q1 (by omega))]
end
end Go.Proofs.Ytkdemainohfgfaa.Pure
/- A round of the reference's labels, and all its rounds. -/
namespace Go.Proofs.Ytkdemainohfgfaa.Pure
open Go.RowKit Go.Proofs.Ytkdemainohfgfaa.Q Go.Proofs.YtkdemainohfgfaaW.PrintWords Go.Proofs.YtkdemainohfgfaaW.PrintLast
section
variable {n : Int} {l : List AI} (hN : Nok n l) (f : List Int) (hf : f.length = l.length) (q : Nat → Int) (hq : ∀ u v c, Res l f u v c → q v ≤ q u + c) (R : Int) (hR : ∀ v, 0 ≤ q v ∧ q v ≤ R) (hR8 : R ≤ 100000000)
include hq hR hR8
theorem okd_bnd (hn : 0 ≤ n) {d : List Int} (h : Okd n.toNat (Res l f) d) : Bnd n d := by
 refine ⟨by rw [h.len]; omega, fun v h0 h1 => ?_⟩
 obtain ⟨v, rfl⟩ := Int.eq_ofNat_of_zero_le h0
 have := okd_low q hq R hR h v (by omega)
 rcases h.fin v (by omega) with h2 | ⟨h2, _⟩
 ·omega
 ·omega
end
structure Rnd (n : Int) (l : List AI) (f : List Int) (d0 : List Int) (L : List ST) (d : List Int) (b : Bool) : Prop where
 ok : Okd n.toNat (Res l f) d
 le : ∀ v : Int, 0 ≤ v → rd d v ≤ rd d0 v
 tight : ∀ s ∈ L, 0 < stRm l f s → rd d0 (stFrom l s) < 1152921504606846976 → rd d (stTo l s) ≤ rd d0 (stFrom l s) + (10000 * stPr l s + 1)
 same : b = false → d = d0
section
variable {n : Int} {l : List AI} (hN : Nok n l) (f : List Int)
include hN
theorem rlx_rd {d : List Int} (hd : (d.length : Int) = n) {s : ST} (hs : s ∈ stps l.length) (v : Int) (hv : 0 ≤ v) : rd (rlx l f d s) v = if rc l f d s = true ∧ v = stTo l s then rd d (stFrom l s) + (10000 * stPr l s + 1) else rd d v := by
 obtain ⟨_, ⟨t1, t2⟩, _⟩ := st_facts hN hs
 unfold rlx
 by_cases c : rc l f d s = true
 ·rw [if_pos c, rd_setA d (stTo l s) _ t1 (by omega) v hv]
  by_cases e : v = stTo l s
  ·rw [if_pos e, if_pos ⟨c, e⟩]
  ·rw [if_neg e, if_neg (fun h => e h.2)]
 ·rw [if_neg c, if_neg (fun h => c h.1)]
theorem rlx_le {d : List Int} (hd : (d.length : Int) = n) {s : ST} (hs : s ∈ stps l.length) (v : Int) (hv : 0 ≤ v) : rd (rlx l f d s) v ≤ rd d v := by
 rw [rlx_rd hN f hd hs v hv]
 split
 ·rename_i h
  have := (of_decide_eq_true h.1).2.2
  rw [h.2]; omega
 ·exact Int.le_refl _
theorem rlx_to {d : List Int} (hd : (d.length : Int) = n) {s : ST} (hs : s ∈ stps l.length) (h1 : 0 < stRm l f s) (h2 : rd d (stFrom l s) < 1152921504606846976) : rd (rlx l f d s) (stTo l s) ≤ rd d (stFrom l s) + (10000 * stPr l s + 1) := by
 obtain ⟨_, ⟨t1, t2⟩, _⟩ := st_facts hN hs
 rw [rlx_rd hN f hd hs _ t1]
 split
 ·exact Int.le_refl _
 ·rename_i h
  by_cases c : rd d (stFrom l s) + (10000 * stPr l s + 1) < rd d (stTo l s)
  ·exact absurd ⟨decide_eq_true ⟨h1, h2, c⟩, rfl⟩ h
  ·omega
theorem rlx_same {d : List Int} {s : ST} (h : rc l f d s = false) : rlx l f d s = d := by unfold rlx; rw [if_neg (by rw [h]; decide)]
theorem res_of {s : ST} (hs : s ∈ stps l.length) (h1 : 0 < stRm l f s) : Res l f (stFrom l s).toNat (stTo l s).toNat (stPr l s) := by
 obtain ⟨⟨f1, f2⟩, ⟨t1, t2⟩, _⟩ := st_facts hN hs
 exact ⟨s, hs, h1, by omega, by omega, rfl⟩
theorem rlx_okd {d : List Int} (hd : Okd n.toNat (Res l f) d) {s : ST} (hs : s ∈ stps l.length) : Okd n.toNat (Res l f) (rlx l f d s) := by
 have hn := hN.1
 have hl : (d.length : Int) = n := by rw [hd.len]; omega
 obtain ⟨⟨f1, f2⟩, ⟨t1, t2⟩, _⟩ := st_facts hN hs
 refine ⟨by rw [rlx_len]; exact hd.len, ?_, fun v hv => ?_⟩
 ·have := rlx_le hN f hl hs ((0 : Nat) : Int) (by omega)
  have := hd.zero
  omega
 ·rw [rlx_rd hN f hl hs _ (by omega)]
  split
  ·rename_i h
   obtain ⟨c1, c2, c3⟩ := of_decide_eq_true h.1
   right
   rcases hd.fin (stFrom l s).toNat (by omega) with h2 | ⟨h2, k, hw⟩
   ·rw [show (((stFrom l s).toNat : Nat) : Int) = stFrom l s by omega] at h2; omega
   ·rw [show (((stFrom l s).toNat : Nat) : Int) = stFrom l s by omega] at h2 hw
    have h3 := Wy.step hw h2 (res_of hN f hs c1)
    rw [show (stTo l s).toNat = v by omega] at h3
    refine ⟨?_, _, h3⟩
    rcases hd.fin v hv with h4 | ⟨h4, _⟩
    ·rw [h.2] at h4; omega
    ·rw [h.2] at h4; omega
  ·exact hd.fin v hv
theorem rnd_step {d0 : List Int} {L : List ST} {d : List Int} {b : Bool} (h : Rnd n l f d0 L d b) {s : ST} (hs : s ∈ stps l.length) : Rnd n l f d0 (L ++ [s]) (rlx l f d s) (rc l f d s || b) := by
 have hn := hN.1
 have hl : (d.length : Int) = n := by rw [h.ok.len]; omega
 obtain ⟨⟨f1, f2⟩, ⟨t1, t2⟩, _⟩ := st_facts hN hs
 refine ⟨rlx_okd hN f h.ok hs, fun v hv => ?_, fun s' hs' h1 h2 => ?_, fun hb => ?_⟩
 ·have := rlx_le hN f hl hs v hv
  have := h.le v hv
  omega
 ·rcases List.mem_append.mp hs' with e | e
  ·have := h.tight s' e h1 h2
   have h3 : 0 ≤ stTo l s' ∨ ¬ 0 ≤ stTo l s' := Decidable.em _
   rcases h3 with h3 | h3
   ·have := rlx_le hN f hl hs _ h3
    omega
   ·have e0 : ∀ x : List Int, rd x (stTo l s') = rd x 0 := fun x => by unfold rd; rw [show (stTo l s').toNat = 0 by omega]; rfl
    rw [e0] at this ⊢
    have := rlx_le hN f hl hs 0 (Int.le_refl _)
    omega
  ·rw [List.mem_singleton.mp e] at h1 h2 ⊢
   have := h.le _ f1
   have := rlx_to hN f hl hs h1 (by omega)
   omega
 ·rw [Bool.or_eq_false_iff] at hb
  rw [rlx_same hN f hb.1]
  exact h.same hb.2
variable (hf : f.length = l.length) (q : Nat → Int) (hq : ∀ u v c, Res l f u v c → q v ≤ q u + c) (R : Int) (hR : ∀ v, 0 ≤ q v ∧ q v ≤ R) (hR8 : R ≤ 100000000)
include hN hf hq hR hR8
theorem far_round (d0 : List Int) (r : Nat) (hr : (r : Int) ≤ n) : ∀ (e i : Nat) (d : List Int) (b : Bool), i + e = l.length → Rnd n l f d0 (stps i) d b → ∃ d' b', Rnd n l f d0 (stps l.length) d' b' ∧ ∀ k, spec_l08Far.l2 (k + 2 * e + 1) f d (r : Int) b (i : Int) n l = (if b' = true then spec_l08Far.l1 k f d' ((r + 1 : Nat) : Int) n l else some d')
 | 0, i, d, b, hi, h => by
  obtain rfl : i = l.length := by omega
  have hn := hN.1
  refine ⟨d, b, h, fun k => ?_⟩
  rw [show k + 2 * 0 + 1 = k + 1 by omega, spec_l08Far.l2, if_neg (by omega), show wrap64 ((r : Int) + 1) = ((r + 1 : Nat) : Int) by rw [w64 (by omega) (by omega)]; rfl]
 | e + 1, i, d, b, hi, h => by
  have m0 : ∀ b, (⟨(i : Int), b⟩ : ST) ∈ stps l.length := fun b => (mem_stps _ _).mpr ⟨i, by omega, rfl⟩
  have hn := hN.1
  have h1 := rnd_step hN f h (m0 false)
  have h2 := rnd_step hN f h1 (m0 true)
  rw [List.append_assoc] at h2
  obtain ⟨d', b', g1, g2⟩ := far_round d0 r hr e (i + 1) _ _ (by omega) (show Rnd n l f d0 (stps (i + 1)) _ _ from h2)
  refine ⟨d', b', g1, fun k => ?_⟩
  rw [show k + 2 * (e + 1) + 1 = (k + 2 * e + 1) + 2 by omega, far_arc hN f hf i (by omega) d (okd_bnd f q hq R hR hR8 (by omega) h.ok) (okd_bnd f q hq R hR hR8 (by omega) h1.ok)]
  exact g2 k
variable {dS : List Int} (hL : Lab n.toNat (Res l f) dS)
include hL
theorem far_l1 : ∀ (e r : Nat) (d : List Int), (r : Int) + e = n → Okd n.toNat (Res l f) d → (∀ v x h, Wy (Res l f) v x h → h ≤ r → rd d (v : Int) ≤ x) → ∃ K, ∀ k, K ≤ k → spec_l08Far.l1 k f d (r : Int) n l = some dS
 | 0, r, d, hr, hd, hp => by
  have hn := hN.1
  refine ⟨1, fun k hk => ?_⟩
  obtain ⟨k, rfl⟩ : ∃ m, k = m + 1 := ⟨k - 1, by omega⟩
  rw [spec_l08Far.l1, if_neg (by omega)]
  congr 1
  refine lab_same hL hd (fun v hv h1 => ?_)
  obtain ⟨p, h, _, h3, _, _, h6⟩ := lab_few (n := n.toNat) (by omega) (by omega) (res_ok hN f) q hq R hR hL v hv h1
  exact hp v _ h h6 (by omega)
 | e + 1, r, d, hr, hd, hp => by
  have hn := hN.1
  obtain ⟨d', b', g1, g2⟩ := far_round hN f hf q hq R hR hR8 d r (by omega) l.length 0 d false (by omega) ⟨hd, fun v hv => Int.le_refl _, fun s hs => absurd hs (by simp [stps]), fun _ => rfl⟩
  have tg : ∀ u v c, Res l f u v c → rd d (u : Int) < 1152921504606846976 → rd d' (v : Int) ≤ rd d (u : Int) + (10000 * c + 1) := by
   rintro u v c ⟨s, hs, h1, h2, h3, h4⟩ hu
   have := g1.tight s hs h1 (by rw [h2]; exact hu)
   rwa [h2, h3, h4] at this
  cases b' with
  | false =>
   have e0 := g1.same rfl
   have hL' : Lab n.toNat (Res l f) d' := ⟨g1.ok, by rw [e0] at tg ⊢; exact tg⟩
   have := lab_unique hL hL'
   refine ⟨2 * l.length + 2, fun k hk => ?_⟩
   obtain ⟨k, rfl⟩ : ∃ m, k = (m + 2 * l.length + 1) + 1 := ⟨k - 2 * l.length - 2, by omega⟩
   rw [spec_l08Far.l1, if_pos (by omega), show (0 : Int) = ((0 : Nat) : Int) from rfl, g2, if_neg (by decide), this]
  | true =>
   obtain ⟨K, h⟩ := far_l1 e (r + 1) d' (by omega) g1.ok (fun v x h hw hh => by
    cases hw with
    | zero => have := g1.ok.zero; exact this
    | step hw hx he =>
     have h1 := hp _ _ _ hw (by omega)
     have := tg _ _ _ he (by omega)
     omega)
   refine ⟨K + 2 * l.length + 2, fun k hk => ?_⟩
   obtain ⟨k, rfl⟩ : ∃ m, k = (m + 2 * l.length + 1) + 1 := ⟨k - 2 * l.length - 2, by omega⟩
   rw [spec_l08Far.l1, if_pos (by omega), show (0 : Int) = ((0 : Nat) : Int) from rfl, g2, if_pos rfl]
   exact h k (by omega)
end
def Ini (n : Nat) (d : List Int) (i : Nat) : Prop := d.length = n ∧ ∀ v : Nat, v < n → rd d (v : Int) = if 0 < v ∧ v < i then 1152921504606846976 else 0
theorem rd_zer (n v : Nat) : rd (List.replicate n 0) (v : Int) = 0 := by
 unfold rd
 rw [List.getD_eq_getElem?_getD, List.getElem?_replicate]
 split <;> rfl
theorem ini_zero (n : Nat) : Ini n (List.replicate n 0) 1 := ⟨by simp, fun v hv => by rw [if_neg (by omega)]; exact rd_zer n v⟩
theorem ini_step {n : Nat} {d : List Int} {i : Nat} (h : Ini n d i) (h0 : 0 < i) (hi : i < n) : Ini n (d.set i 1152921504606846976) (i + 1) := by
 refine ⟨by rw [List.length_set]; exact h.1, fun v hv => ?_⟩
 rw [rd_setN d i v _ (by rw [h.1]; exact hi), h.2 v hv]
 by_cases e : i = v
 ·rw [if_pos e, if_pos ⟨by omega, by omega⟩]
 ·rw [if_neg e]
  by_cases c : 0 < v ∧ v < i
  ·rw [if_pos c, if_pos ⟨c.1, by omega⟩]
  ·rw [if_neg c, if_neg (by omega)]
theorem ini_okd {n : Nat} {E : Nat → Nat → Int → Prop} {d : List Int} (h : Ini n d n) (h0 : 0 < n) : Okd n E d := by
 refine ⟨h.1, ?_, fun v hv => ?_⟩
 ·rw [h.2 0 h0, if_neg (by omega)]; exact Int.le_refl _
 ·rw [h.2 v hv]
  by_cases c : 0 < v
  ·rw [if_pos ⟨c, hv⟩]; exact .inl rfl
  ·obtain rfl : v = 0 := by omega
   rw [if_neg (by omega)]
   exact .inr ⟨by omega, 0, Wy.zero⟩
section
variable {n : Int} {l : List AI} (hN : Nok n l) (f : List Int)
include hN
theorem far_l0 : ∀ (e i : Nat) (d : List Int), (i : Int) + e = n → 0 < i → Ini n.toNat d i → ∃ d', Ini n.toNat d' n.toNat ∧ ∀ k, spec_l08Far.l0 (k + e + 1) f d (i : Int) n l = spec_l08Far.l1 k f d' 0 n l
 | 0, i, d, hi, h0, h => by
  have hn := hN.1
  obtain rfl : i = n.toNat := by omega
  refine ⟨d, h, fun k => ?_⟩
  rw [show k + 0 + 1 = k + 1 by omega, spec_l08Far.l0, if_neg (by omega)]
 | e + 1, i, d, hi, h0, h => by
  have hn := hN.1
  obtain ⟨d', g1, g2⟩ := far_l0 e (i + 1) _ (by omega) (by omega) (ini_step h h0 (by omega))
  refine ⟨d', g1, fun k => ?_⟩
  have hl := h.1
  rw [show k + (e + 1) + 1 = (k + e + 1) + 1 by omega, spec_l08Far.l0, if_pos (by omega), if_pos (by omega), if_pos (by omega), show wrap64 ((i : Int) + 1) = ((i + 1 : Nat) : Int) by rw [w64 (by omega) (by omega)]; rfl, Int.toNat_natCast]
  exact g2 k
variable (hf : f.length = l.length) (q : Nat → Int) (hq : ∀ u v c, Res l f u v c → q v ≤ q u + c) (R : Int) (hR : ∀ v, 0 ≤ q v ∧ q v ≤ R) (hR8 : R ≤ 100000000) {dS : List Int} (hL : Lab n.toNat (Res l f) dS)
include hf hq hR hR8 hL
theorem far_ev : ∃ K, ∀ k, K ≤ k → spec_l08Far.f k n l f = some dS := by
 have hn := hN.1
 obtain ⟨d', g1, g2⟩ := far_l0 hN f (n.toNat - 1) 1 (List.replicate n.toNat 0) (by omega) (by omega) (ini_zero n.toNat)
 obtain ⟨K, h⟩ := far_l1 hN f hf q hq R hR hR8 hL n.toNat 0 d' (by omega) (ini_okd g1 (by omega)) (fun v x h hw hh => by
  cases hw with
  | zero => rw [g1.2 0 (by omega), if_neg (by omega)]; exact Int.le_refl _
  | step hw hx he => omega)
 refine ⟨K + n.toNat + 1, fun k hk => ?_⟩
 obtain ⟨k, rfl⟩ : ∃ m, k = m + (n.toNat - 1) + 1 := ⟨k - (n.toNat - 1) - 1, by omega⟩
 unfold spec_l08Far.f
 rw [if_pos (by omega), if_pos (by omega), show (1 : Int) = ((1 : Nat) : Int) from rfl, g2]
 exact h k (by omega)
end
end Go.Proofs.Ytkdemainohfgfaa.Pure
/- The program's distances: a queue of nodes, until no label gets less. -/
namespace Go.Proofs.Ytkdemainohfgfaa.Pure
open Go.RowKit Go.Proofs.Ytkdemainohfgfaa.Q Go.Proofs.YtkdemainohfgfaaW.PrintWords Go.Proofs.YtkdemainohfgfaaW.PrintLast
def sumI : List Int → Int
 | [] => 0
 | x :: xs => x + sumI xs
theorem sumI_set : ∀ (l : List Int) (i : Nat) (x : Int), i < l.length → sumI (l.set i x) = sumI l - rd l (i : Int) + x
 | [], i, x, h => by simp at h
 | y :: ys, 0, x, h => by simp only [List.set_cons_zero, sumI]; have : rd (y :: ys) ((0 : Nat) : Int) = y := rfl; rw [this]; omega
 | y :: ys, i + 1, x, h => by
  have h2 : i < ys.length := by simpa using h
  have e : rd (y :: ys) ((i + 1 : Nat) : Int) = rd ys (i : Int) := by rw [rd_get _ _ h, rd_get _ _ h2]; rfl
  simp only [List.set_cons_succ, sumI]
  rw [sumI_set ys i x h2, e]; omega
theorem sumI_low (B : Int) : ∀ (l : List Int), (∀ x ∈ l, -B ≤ x) → -(B * l.length) ≤ sumI l
 | [], _ => by simp [sumI]
 | y :: ys, h => by
  have := sumI_low B ys (fun x hx => h x (List.mem_cons_of_mem _ hx))
  have := h y (by simp)
  simp only [sumI, List.length_cons]
  rw [show B * (((ys.length + 1 : Nat)) : Int) = B * ys.length + B by rw [Int.natCast_add, Int.mul_add]; simp]
  omega
theorem phpI (n : Nat) (L : List Int) (hd : L.Nodup) (h : ∀ x ∈ L, 0 ≤ x ∧ x < n) : L.length ≤ n := by
 have h1 : (L.map Int.toNat).Nodup := by
  unfold List.Nodup at hd ⊢
  rw [List.pairwise_map]
  refine List.Pairwise.imp_of_mem (fun {a b} ha hb hab e => hab ?_) hd
  have := h a ha
  have := h b hb
  omega
 have := php n _ h1 (fun x hx => by
  obtain ⟨y, hy, rfl⟩ := List.mem_map.mp hx
  have := h y hy
  omega)
 simpa using this
abbrev rdB (w : List Bool) (x : Int) : Bool := rdOf false w x
theorem rdB_set (w : List Bool) (z : Int) (b : Bool) (hz : 0 ≤ z) (hl : z < w.length) (x : Int) (hx : 0 ≤ x) : rdB (w.set z.toNat b) x = if x = z then b else rdB w x := by
 unfold rdB rdOf
 rw [List.getD_eq_getElem?_getD, List.getD_eq_getElem?_getD, List.getElem?_set]
 by_cases e : x = z
 ·subst e
  rw [if_pos rfl, if_pos (by omega), if_pos rfl]; rfl
 ·rw [if_neg (by omega), if_neg e]
section
variable (n : Int) (l : List AI) (f : List Int)
structure Sp (d : List Int) (w : List Bool) (Q : List Int) : Prop where
 ok : Okd n.toNat (Res l f) d
 wl : (w.length : Int) = n
 nd : Q.Nodup
 rng : ∀ x ∈ Q, (0 ≤ x ∧ x < n) ∧ rd d x < 1152921504606846976
 wq : ∀ v : Int, 0 ≤ v → v < n → rdB w v = true → v ∈ Q
 qw : ∀ x ∈ Q.tail, rdB w x = true
 tight : ∀ u v c, Res l f u v c → rd d (u : Int) < 1152921504606846976 → (u : Int) ∈ Q ∨ rd d (v : Int) ≤ rd d (u : Int) + (10000 * c + 1)
structure Si (a : Int) (D : List ST) (d : List Int) (w : List Bool) (T : List Int) : Prop where
 ok : Okd n.toNat (Res l f) d
 wl : (w.length : Int) = n
 an : (0 ≤ a ∧ a < n) ∧ rd d a < 1152921504606846976
 nd : (a :: T).Nodup
 rng : ∀ x ∈ T, (0 ≤ x ∧ x < n) ∧ rd d x < 1152921504606846976
 wq : ∀ v : Int, 0 ≤ v → v < n → rdB w v = true → v ∈ T
 qw : ∀ x ∈ T, rdB w x = true
 tight : ∀ u v c, Res l f u v c → rd d (u : Int) < 1152921504606846976 → (u : Int) ≠ a → (u : Int) ∈ T ∨ rd d (v : Int) ≤ rd d (u : Int) + (10000 * c + 1)
 done : ∀ s ∈ D, 0 < stRm l f s → rd d (stTo l s) ≤ rd d a + (10000 * stPr l s + 1)
end
section
variable {n : Int} {l : List AI} (hN : Nok n l) (f : List Int)
include hN
theorem si_skip {a : Int} {D : List ST} {d : List Int} {w : List Bool} {T : List Int} (h : Si n l f a D d w T) {s : ST} (hs : s ∈ stps l.length) (ha : stFrom l s = a) (hc : rc l f d s = false) : Si n l f a (D ++ [s]) d w T :=
 ⟨h.ok, h.wl, h.an, h.nd, h.rng, h.wq, h.qw, h.tight, fun s' hs' h1 => by
  rcases List.mem_append.mp hs' with e | e
  ·exact h.done s' e h1
  ·rw [List.mem_singleton.mp e] at h1 ⊢
   have := of_decide_eq_false hc
   rw [ha] at this
   have h2 := h.an.2
   by_cases c : rd d a + (10000 * stPr l s + 1) < rd d (stTo l s)
   ·exact absurd ⟨h1, h2, c⟩ this
   ·omega⟩
theorem si_relax {a : Int} {D : List ST} {d : List Int} {w : List Bool} {T : List Int} (h : Si n l f a D d w T) {s : ST} (hs : s ∈ stps l.length) (ha : stFrom l s = a) (hc : rc l f d s = true) (w' : List Bool) (T' : List Int) (hw : (rdB w (stTo l s) = true ∧ w' = w ∧ T' = T) ∨ (rdB w (stTo l s) = false ∧ w' = w.set (stTo l s).toNat true ∧ T' = T ++ [stTo l s])) : Si n l f a (D ++ [s]) (rlx l f d s) w' T' := by
 have hn := hN.1
 have hl : (d.length : Int) = n := by rw [h.ok.len]; omega
 obtain ⟨⟨f1, f2⟩, ⟨t1, t2⟩, hne, _⟩ := st_facts hN hs
 obtain ⟨c1, c2, c3⟩ := of_decide_eq_true hc
 have hle := rlx_le hN f hl hs
 have hra : rd (rlx l f d s) a = rd d a := by
  rw [rlx_rd hN f hl hs a h.an.1.1, if_neg (fun e => hne (by rw [ha]; exact e.2))]
 have hrt : rd (rlx l f d s) (stTo l s) = rd d a + (10000 * stPr l s + 1) := by rw [rlx_rd hN f hl hs _ t1, if_pos ⟨hc, rfl⟩, ha]
 have hfin : ∀ v : Nat, v < n.toNat → rd d (v : Int) ≤ 1152921504606846976 := fun v hv => by
  rcases h.ok.fin v hv with e | e
  ·omega
  ·omega
 have htf : rd (rlx l f d s) (stTo l s) < 1152921504606846976 := by
  have := hfin (stTo l s).toNat (by omega)
  rw [show (((stTo l s).toNat : Nat) : Int) = stTo l s by omega] at this
  rw [hrt]; rw [ha] at c3; omega
 have hin : stTo l s ∈ T' := by
  rcases hw with ⟨e1, _, e3⟩ | ⟨_, _, e3⟩
  ·rw [e3]; exact h.wq _ t1 t2 e1
  ·rw [e3]; simp
 have hsub : ∀ x ∈ T, x ∈ T' := fun x hx => by
  rcases hw with ⟨_, _, e3⟩ | ⟨_, _, e3⟩
  ·rw [e3]; exact hx
  ·rw [e3]; exact List.mem_append_left _ hx
 have hmem : ∀ x ∈ T', x ∈ T ∨ x = stTo l s := fun x hx => by
  rcases hw with ⟨_, _, e3⟩ | ⟨_, _, e3⟩
  ·rw [e3] at hx; exact .inl hx
  ·rw [e3] at hx
   rcases List.mem_append.mp hx with e | e
   ·exact .inl e
   ·exact .inr (List.mem_singleton.mp e)
 have hdone : ∀ s' ∈ D ++ [s], 0 < stRm l f s' → rd (rlx l f d s) (stTo l s') ≤ rd (rlx l f d s) a + (10000 * stPr l s' + 1) := fun s' hs' h1 => by
  rw [hra]
  rcases List.mem_append.mp hs' with e | e
  ·have := h.done s' e h1
   have h3 : 0 ≤ stTo l s' ∨ ¬ 0 ≤ stTo l s' := Decidable.em _
   rcases h3 with h3 | h3
   ·have := hle _ h3
    omega
   ·have e0 : ∀ x : List Int, rd x (stTo l s') = rd x 0 := fun x => by unfold rd; rw [show (stTo l s').toNat = 0 by omega]; rfl
    rw [e0] at this ⊢
    have := hle 0 (Int.le_refl _)
    omega
  ·rw [List.mem_singleton.mp e, hrt]
   exact Int.le_refl _
 have hwv : ∀ v : Int, 0 ≤ v → (rdB w' v = true ↔ (rdB w v = true ∨ v = stTo l s)) := fun v hv => by
  rcases hw with ⟨e1, e2, _⟩ | ⟨e1, e2, _⟩
  ·rw [e2]
   exact ⟨fun h => .inl h, fun h => h.elim id (fun e => by rw [e]; exact e1)⟩
  ·rw [e2, rdB_set w _ true t1 (by rw [h.wl]; exact t2) v hv]
   by_cases e : v = stTo l s
   ·rw [if_pos e]; exact ⟨fun _ => .inr e, fun _ => rfl⟩
   ·rw [if_neg e]; exact ⟨fun h => .inl h, fun h => h.elim id (fun z => absurd z e)⟩
 refine ⟨rlx_okd hN f h.ok hs, ?_, ⟨h.an.1, by rw [hra]; exact h.an.2⟩, ?_, fun x hx => ?_, fun v h0 h1 hv => ?_, fun x hx => ?_, fun u v c hr hu hua => ?_, hdone⟩
 ·rcases hw with ⟨_, e2, _⟩ | ⟨_, e2, _⟩
  ·rw [e2]; exact h.wl
  ·rw [e2, List.length_set]; exact h.wl
 ·rcases hw with ⟨_, _, e3⟩ | ⟨e1, _, e3⟩
  ·rw [e3]; exact h.nd
  ·rw [e3]
   obtain ⟨n1, n2⟩ := List.nodup_cons.mp h.nd
   refine List.nodup_cons.mpr ⟨fun hx => ?_, ?_⟩
   ·rcases List.mem_append.mp hx with e | e
    ·exact n1 e
    ·exact hne (by rw [ha]; exact List.mem_singleton.mp e)
   ·refine List.nodup_append.mpr ⟨n2, by simp, fun x hx y hy e => ?_⟩
    rw [List.mem_singleton.mp hy] at e
    have := h.qw x hx
    rw [e, e1] at this
    cases this
 ·rcases hmem x hx with e | e
  ·obtain ⟨r1, r2⟩ := h.rng x e
   exact ⟨r1, by have := hle x r1.1; omega⟩
  ·rw [e]; exact ⟨⟨t1, t2⟩, htf⟩
 ·rcases (hwv v h0).mp hv with e | e
  ·exact hsub v (h.wq v h0 h1 e)
  ·rw [e]; exact hin
 ·rcases hmem x hx with e | e
  ·exact (hwv x (h.rng x e).1.1).mpr (.inl (h.qw x e))
  ·exact (hwv x (by omega)).mpr (.inr e)
 ·by_cases e : (u : Int) = stTo l s
  ·left; rw [e]; exact hin
  ·have hu2 : rd (rlx l f d s) (u : Int) = rd d (u : Int) := by rw [rlx_rd hN f hl hs _ (by omega), if_neg (fun z => e z.2)]
   rw [hu2] at hu ⊢
   rcases h.tight u v c hr hu hua with g | g
   ·exact .inl (hsub _ g)
   ·right
    have := hle (v : Int) (by omega)
    omega
theorem sum_rlx {d : List Int} (hd : (d.length : Int) = n) {s : ST} (hs : s ∈ stps l.length) (hc : rc l f d s = true) : sumI (rlx l f d s) + 1 ≤ sumI d := by
 obtain ⟨_, ⟨t1, t2⟩, _⟩ := st_facts hN hs
 have := (of_decide_eq_true hc).2.2
 unfold rlx
 rw [if_pos hc, sumI_set d _ _ (by omega), show (((stTo l s).toNat : Nat) : Int) = stTo l s by omega]
 omega
variable (hf : f.length = l.length) (hfl : FlFrom l f 0) (q : Nat → Int) (hq : ∀ u v c, Res l f u v c → q v ≤ q u + c) (R : Int) (hR : ∀ v, 0 ≤ q v ∧ q v ≤ R) (hR8 : R ≤ 100000000)
include hf hfl hq hR hR8
theorem di_step (LV : List (List ST)) (Y : List ST) (hY : ∀ s ∈ Y, s ∈ stps l.length) (hYl : Y.length ≤ 6400) (a : Int) (hYa : ∀ s ∈ Y, stFrom l s = a) (j : Nat) (hj : j < Y.length) {d : List Int} {w : List Bool} {T : List Int} (h : Si n l f a (Y.take j) d w T) : ∃ d' w' T', Si n l f a (Y.take (j + 1)) d' w' T' ∧ 2 * sumI d' + (T'.length : Int) ≤ 2 * sumI d + (T.length : Int) ∧ ∀ k, impl_distances.l2 (k + 2) LV f d w (a :: T) a Y (Y.length : Int) (j : Int) n l = impl_distances.l2 k LV f d' w' (a :: T') a Y (Y.length : Int) ((j + 1 : Nat) : Int) n l := by
 have hn := hN.1
 have hs : Y[j] ∈ stps l.length := hY _ (List.getElem_mem _)
 have ha : stFrom l Y[j] = a := hYa _ (List.getElem_mem _)
 have hr : rd_T57 Y (j : Int) = Y[j] := by simp [rd_T57, hj]
 have e9 : wrap64 ((j : Int) + 1) = ((j + 1 : Nat) : Int) := by rw [w64 (by omega) (by omega)]; rfl
 have et : Y.take (j + 1) = Y.take j ++ [Y[j]] := List.take_succ_eq_append_getElem hj
 have hdl : (d.length : Int) = n := by rw [h.ok.len]; omega
 obtain ⟨hroom, hr0⟩ := room_ev hN hs f hf hfl
 obtain ⟨⟨f1, f2⟩, ⟨t1, t2⟩, hne, p1, p2⟩ := st_facts hN hs
 have hB := okd_bnd f q hq R hR hR8 (by omega) h.ok
 obtain ⟨b1, b2⟩ := hB.2 a h.an.1.1 h.an.1.2
 have ew : wrap64 (rd d a + (10000 * stPr l Y[j] + 1)) = rd d a + (10000 * stPr l Y[j] + 1) := w64 (by omega) (by omega)
 have hlen := phpI n.toNat (a :: T) h.nd (fun x hx => by
  rcases List.mem_cons.mp hx with e | e
  ·have := h.an.1; rw [e]; omega
  ·have := (h.rng x e).1; omega)
 have head : ∀ k, impl_distances.l2 (k + 2) LV f d w (a :: T) a Y (Y.length : Int) (j : Int) n l = impl_distances.j3 (k + 1) LV f d w (a :: T) a (stTo l Y[j]) (rd d a + (10000 * stPr l Y[j] + 1)) Y (Y.length : Int) (j : Int) (!(rc l f d Y[j])) n l := fun k => by
  rw [show k + 2 = (k + 1) + 1 by omega, impl_distances.l2, if_pos (by omega), if_pos (by omega), if_pos (by omega), hr, ends_ev hN hs, Option.bind_some, if_pos h.an.1.1, if_pos (by have := h.an.1; omega), length_ev hN hs, Option.bind_some, hroom, Option.bind_some]
  simp only
  rw [ew]
  by_cases c1 : stRm l f Y[j] = 0
  ·rw [if_pos c1]
   congr 1
   unfold rc
   rw [decide_eq_false (fun z => by omega)]; rfl
  ·rw [if_neg c1, if_pos t1, if_pos (by omega)]
   congr 1
   unfold rc
   rw [ha]
   by_cases c2 : rd d a + (10000 * stPr l Y[j] + 1) < rd d (stTo l Y[j])
   ·rw [decide_eq_true (⟨by omega, h.an.2, c2⟩ : 0 < stRm l f Y[j] ∧ _), decide_eq_false (by omega)]; rfl
   ·rw [decide_eq_false (fun z => c2 z.2.2 : ¬ (0 < stRm l f Y[j] ∧ rd d a < 1152921504606846976 ∧ rd d a + (10000 * stPr l Y[j] + 1) < rd d (stTo l Y[j]))), decide_eq_true (by omega)]; rfl
 cases hc : rc l f d Y[j] with
 | false =>
  refine ⟨d, w, T, by rw [et]; exact si_skip hN f h hs ha hc, Int.le_refl _, fun k => ?_⟩
  rw [head k, hc, impl_distances.j3, if_pos (by decide), e9]
 | true =>
  have hrl : d.set (stTo l Y[j]).toNat (rd d a + (10000 * stPr l Y[j] + 1)) = rlx l f d Y[j] := by unfold rlx; rw [if_pos hc, ha]
  have hsum := sum_rlx hN f hdl hs hc
  by_cases c3 : rdOf false w (stTo l Y[j]) = true
  ·refine ⟨rlx l f d Y[j], w, T, by rw [et]; exact si_relax hN f h hs ha hc w T (.inl ⟨c3, rfl, rfl⟩), by omega, fun k => ?_⟩
   rw [head k, hc, impl_distances.j3, if_neg (by decide), if_pos t1, if_pos (by omega), Option.bind_some, if_pos (by have := h.wl; omega), if_pos c3, hrl, e9]
  ·refine ⟨rlx l f d Y[j], w.set (stTo l Y[j]).toNat true, T ++ [stTo l Y[j]], by rw [et]; exact si_relax hN f h hs ha hc _ _ (.inr ⟨by simpa using c3, rfl, rfl⟩), by rw [List.length_append, List.length_singleton]; omega, fun k => ?_⟩
   rw [head k, hc, impl_distances.j3, if_neg (by decide), if_pos t1, if_pos (by omega), Option.bind_some, if_pos (by have := h.wl; omega), if_neg c3, if_pos (by omega), hrl, e9]
   rfl
theorem di_l2 (LV : List (List ST)) (Y : List ST) (hY : ∀ s ∈ Y, s ∈ stps l.length) (hYl : Y.length ≤ 6400) (a : Int) (hYa : ∀ s ∈ Y, stFrom l s = a) : ∀ (e j : Nat) (d : List Int) (w : List Bool) (T : List Int), j + e = Y.length → Si n l f a (Y.take j) d w T → ∃ d' w' T', Si n l f a Y d' w' T' ∧ 2 * sumI d' + (T'.length : Int) ≤ 2 * sumI d + (T.length : Int) ∧ ∀ k, impl_distances.l2 (k + 2 * e + 1) LV f d w (a :: T) a Y (Y.length : Int) (j : Int) n l = impl_distances.l1 k LV f d' w' T' n l
 | 0, j, d, w, T, hj, h => by
  obtain rfl : j = Y.length := by omega
  refine ⟨d, w, T, by rw [List.take_length] at h; exact h, Int.le_refl _, fun k => ?_⟩
  rw [show k + 2 * 0 + 1 = k + 1 by omega, impl_distances.l2, if_neg (by omega), if_pos (by simp only [List.length_cons]; omega)]
  rfl
 | e + 1, j, d, w, T, hj, h => by
  obtain ⟨d1, w1, T1, g1, g2, g3⟩ := di_step hN f hf hfl q hq R hR hR8 LV Y hY hYl a hYa j (by omega) h
  obtain ⟨d2, w2, T2, k1, k2, k3⟩ := di_l2 LV Y hY hYl a hYa e (j + 1) d1 w1 T1 (by omega) g1
  refine ⟨d2, w2, T2, k1, by omega, fun k => ?_⟩
  rw [show k + 2 * (e + 1) + 1 = (k + 2 * e + 1) + 2 by omega, g3]
  exact k3 k
theorem di_l1 : ∀ (M : Nat) (d : List Int) (w : List Bool) (Q : List Int), Sp n l f d w Q → 2 * sumI d + (Q.length : Int) ≤ -(2 * (1000000000000 * n)) + (M : Int) → ∃ dS, Lab n.toNat (Res l f) dS ∧ ∃ K, ∀ k, K ≤ k → impl_distances.l1 k (grp (stFrom l) n.toNat (stps l.length)) f d w Q n l = some dS := by
 intro M
 induction M with
 | zero =>
  intro d w Q h hm
  have hn := hN.1
  have hB := okd_bnd f q hq R hR hR8 (by omega) h.ok
  have hlow := sumI_low 1000000000000 d (fun x hx => by
   obtain ⟨i, hi, rfl⟩ := List.getElem_of_mem hx
   have := hB.2 (i : Int) (by omega) (by have := hB.1; omega)
   rw [rd_get d i hi] at this
   exact this.1)
  rw [hB.1] at hlow
  cases Q with
  | nil =>
   refine ⟨d, ⟨h.ok, fun u v c hr hu => by rcases h.tight u v c hr hu with e | e; cases e; exact e⟩, 1, fun k hk => ?_⟩
   obtain ⟨k, rfl⟩ : ∃ m, k = m + 1 := ⟨k - 1, by omega⟩
   rw [impl_distances.l1, if_neg (by simp)]
  | cons a T => simp only [List.length_cons] at hm; omega
 | succ M ih =>
  intro d w Q h hm
  have hn := hN.1
  cases Q with
  | nil =>
   refine ⟨d, ⟨h.ok, fun u v c hr hu => by rcases h.tight u v c hr hu with e | e; cases e; exact e⟩, 1, fun k hk => ?_⟩
   obtain ⟨k, rfl⟩ : ∃ m, k = m + 1 := ⟨k - 1, by omega⟩
   rw [impl_distances.l1, if_neg (by simp)]
  | cons a T =>
   obtain ⟨⟨a1, a2⟩, a3⟩ := h.rng a (by simp)
   have hg := grp_rd (stFrom l) n.toNat (stps l.length) a a1 (by omega)
   have hY : ∀ s ∈ (stps l.length).filter (fun s => decide (stFrom l s = a)), s ∈ stps l.length ∧ stFrom l s = a := fun s hs => by
    obtain ⟨h1, h2⟩ := List.mem_filter.mp hs
    exact ⟨h1, of_decide_eq_true h2⟩
   have hYl : ((stps l.length).filter (fun s => decide (stFrom l s = a))).length ≤ 6400 := by
    have := List.length_filter_le (fun s => decide (stFrom l s = a)) (stps l.length)
    rw [stps_len] at this
    have := hN.2.1
    omega
   have nd := List.nodup_cons.mp h.nd
   have hr0 : rd (a :: T) 0 = a := rfl
   have h0 : Si n l f a [] d (w.set a.toNat false) T := by
    refine ⟨h.ok, by rw [List.length_set]; exact h.wl, ⟨⟨a1, a2⟩, a3⟩, h.nd, fun x hx => h.rng x (by simp [hx]), fun v h0 h1 hv => ?_, fun x hx => ?_, fun u v c hr hu hua => ?_, fun s hs => by cases hs⟩
    ·rw [rdB_set w a false a1 (by rw [h.wl]; exact a2) v h0] at hv
     by_cases e : v = a
     ·rw [if_pos e] at hv; cases hv
     ·rw [if_neg e] at hv
      rcases List.mem_cons.mp (h.wq v h0 h1 hv) with z | z
      ·exact absurd z e
      ·exact z
    ·rw [rdB_set w a false a1 (by rw [h.wl]; exact a2) x (h.rng x (by simp [hx])).1.1, if_neg (fun (e : x = a) => nd.1 (e ▸ hx))]
     exact h.qw x hx
    ·rcases h.tight u v c hr hu with e | e
     ·rcases List.mem_cons.mp e with z | z
      ·exact absurd z hua
      ·exact .inl z
     ·exact .inr e
   obtain ⟨d', w', T', g1, g2, g3⟩ := di_l2 hN f hf hfl q hq R hR hR8 (grp (stFrom l) n.toNat (stps l.length)) _ (fun s hs => (hY s hs).1) hYl a (fun s hs => (hY s hs).2) _ 0 d _ T (Nat.zero_add _) (by rw [List.take_zero]; exact h0)
   have hS : Sp n l f d' w' T' := by
    refine ⟨g1.ok, g1.wl, (List.nodup_cons.mp g1.nd).2, g1.rng, g1.wq, fun x hx => g1.qw x (List.mem_of_mem_tail hx), fun u v c hr hu => ?_⟩
    by_cases e : (u : Int) = a
    ·right
     obtain ⟨s, hs, h1, h2, h3, h4⟩ := hr
     have := g1.done s (List.mem_filter.mpr ⟨hs, decide_eq_true (h2.trans e)⟩) h1
     rw [h3, h4, ← e] at this
     exact this
    ·exact g1.tight u v c hr hu e
   obtain ⟨dS, hL, K, hK⟩ := ih d' w' T' hS (by simp only [List.length_cons] at hm; omega)
   refine ⟨dS, hL, K + 2 * ((stps l.length).filter (fun s => decide (stFrom l s = a))).length + 2, fun k hk => ?_⟩
   obtain ⟨k, rfl⟩ : ∃ m, k = (m + 2 * ((stps l.length).filter (fun s => decide (stFrom l s = a))).length + 1) + 1 := ⟨k - 2 * ((stps l.length).filter (fun s => decide (stFrom l s = a))).length - 2, by omega⟩
   rw [impl_distances.l1, if_pos (by simp only [List.length_cons]; omega), if_pos (by simp only [List.length_cons]; omega), hr0, if_pos a1, if_pos (by have := h.wl; omega), if_pos (by rw [grp_len]; omega), hg]
   rw [show (0 : Int) = ((0 : Nat) : Int) from rfl, g3]
   exact hK k (by omega)
end
section
variable {n : Int} {l : List AI} (hN : Nok n l) (f : List Int)
include hN
theorem di_l0 (LV : List (List ST)) (w : List Bool) : ∀ (e i : Nat) (d : List Int), (i : Int) + e = n → 0 < i → Ini n.toNat d i → ∃ d', Ini n.toNat d' n.toNat ∧ ∀ k, impl_distances.l0 (k + e + 1) LV f d w (i : Int) n l = impl_distances.l1 k LV f d' w [0] n l
 | 0, i, d, hi, h0, h => by
  have hn := hN.1
  obtain rfl : i = n.toNat := by omega
  refine ⟨d, h, fun k => ?_⟩
  rw [show k + 0 + 1 = k + 1 by omega, impl_distances.l0, if_neg (by omega)]
 | e + 1, i, d, hi, h0, h => by
  have hn := hN.1
  obtain ⟨d', g1, g2⟩ := di_l0 LV w e (i + 1) _ (by omega) (by omega) (ini_step h h0 (by omega))
  refine ⟨d', g1, fun k => ?_⟩
  have hl := h.1
  rw [show k + (e + 1) + 1 = (k + e + 1) + 1 by omega, impl_distances.l0, if_pos (by omega), if_pos (by omega), if_pos (by omega), show wrap64 ((i : Int) + 1) = ((i + 1 : Nat) : Int) by rw [w64 (by omega) (by omega)]; rfl, Int.toNat_natCast]
  exact g2 k
variable (hf : f.length = l.length) (hfl : FlFrom l f 0) (q : Nat → Int) (hq : ∀ u v c, Res l f u v c → q v ≤ q u + c) (R : Int) (hR : ∀ v, 0 ≤ q v ∧ q v ≤ R) (hR8 : R ≤ 100000000)
include hf hfl hq hR hR8
theorem di_ev : ∃ dS, Lab n.toNat (Res l f) dS ∧ ∃ K, ∀ k, K ≤ k → impl_distances.f k n l (grp (stFrom l) n.toNat (stps l.length)) f = some dS := by
 have hn := hN.1
 obtain ⟨d', g1, g2⟩ := di_l0 hN f (grp (stFrom l) n.toNat (stps l.length)) (List.replicate n.toNat false) (n.toNat - 1) 1 (List.replicate n.toNat 0) (by omega) (by omega) (ini_zero n.toNat)
 have hok := ini_okd (E := Res l f) g1 (by omega)
 have hw : ∀ v : Int, rdB (List.replicate n.toNat false) v = false := fun v => by
  unfold rdB rdOf
  rw [List.getD_eq_getElem?_getD, List.getElem?_replicate]
  split <;> rfl
 have hS : Sp n l f d' (List.replicate n.toNat false) [0] := by
  refine ⟨hok, by simp; omega, by simp, fun x hx => ?_, fun v _ _ hv => (by rw [hw v] at hv; cases hv), fun x hx => (by cases hx), fun u v c hr hu => ?_⟩
  ·rw [List.mem_singleton.mp hx]
   have := g1.2 0 (by omega)
   rw [if_neg (by omega)] at this
   exact ⟨by omega, by rw [show (0 : Int) = ((0 : Nat) : Int) from rfl, this]; omega⟩
  ·left
   have hu2 := (res_ok hN f u v c hr).1.1
   rw [g1.2 u hu2] at hu
   by_cases c0 : 0 < u
   ·rw [if_pos ⟨c0, hu2⟩] at hu; omega
   ·simp; omega
 obtain ⟨dS, hL, K, h⟩ := di_l1 hN f hf hfl q hq R hR hR8 ((2 * sumI d' + 1) + 2 * (1000000000000 * n)).toNat d' _ [0] hS (by simp only [List.length_singleton]; omega)
 refine ⟨dS, hL, K + n.toNat + 1, fun k hk => ?_⟩
 obtain ⟨k, rfl⟩ : ∃ m, k = m + (n.toNat - 1) + 1 := ⟨k - (n.toNat - 1) - 1, by omega⟩
 unfold impl_distances.f
 rw [if_pos (by omega), if_pos (by omega), if_pos (by omega), show (1 : Int) = ((1 : Nat) : Int) from rfl, g2]
 exact h k (by omega)
end
end Go.Proofs.Ytkdemainohfgfaa.Pure
/- The first step that fits, as the reference and the program look for it. -/
namespace Go.Proofs.Ytkdemainohfgfaa.Pure
open Go.RowKit Go.Proofs.Ytkdemainohfgfaa.Q Go.Proofs.YtkdemainohfgfaaW.PrintWords Go.Proofs.YtkdemainohfgfaaW.PrintLast
theorem wsucc (i : Nat) (h : i ≤ 1000000) : wrap64 ((i : Int) + 1) = ((i + 1 : Nat) : Int) := by rw [w64 (by omega) (by omega)]; rfl
theorem w_a (c : Int) (h : 0 ≤ c ∧ c ≤ 100) : wrap64 (10000 * c) = 10000 * c := w64 (by omega) (by omega)
theorem w_b (x c : Int) (h : 0 ≤ c ∧ c ≤ 100) (hx : -1000000000000 ≤ x ∧ x ≤ 1152921504606846976) : wrap64 ((wrap64 (x + (10000 * c))) + 1) = x + (10000 * c + 1) := by
 rw [w64 (x := x + (10000 * c)) (by omega) (by omega), w64 (by omega) (by omega)]; omega
theorem w_c (x c : Int) (h : 0 ≤ c ∧ c ≤ 100) (hx : -1000000000000 ≤ x ∧ x ≤ 1152921504606846976) : wrap64 ((wrap64 (x - (10000 * c))) + 1) = x + (10000 * -c + 1) := by
 rw [w64 (x := x - (10000 * c)) (by omega) (by omega), w64 (by omega) (by omega)]; omega
theorem w_d (i : Nat) (h : i ≤ 1000000) : wrap64 ((wrap64 (-(i : Int))) - 1) = -(i : Int) - 1 := by rw [w64 (x := -(i : Int)) (by omega) (by omega), w64 (by omega) (by omega)]
theorem w_e (x p : Int) (h : -100 ≤ p ∧ p ≤ 100) (hx : -1000000000000 ≤ x ∧ x ≤ 1152921504606846976) : wrap64 (x + (10000 * p + 1)) = x + (10000 * p + 1) := w64 (by omega) (by omega)
def fit0 (l : List AI) (f d : List Int) (v : Int) (s : ST) : Bool := decide (0 < stRm l f s ∧ rd d (stFrom l s) < 1152921504606846976 ∧ rd d (stFrom l s) + (10000 * stPr l s + 1) = rd d v)
def fitB (l : List AI) (f d : List Int) (v : Int) (s : ST) : Bool := decide (stTo l s = v) && fit0 l f d v s
def stTl (i : Nat) : Nat → List ST
 | 0 => []
 | e + 1 => stp2 i ++ stTl (i + 1) e
theorem stTl_stps : ∀ (e i : Nat), stps i ++ stTl i e = stps (i + e)
 | 0, i => by simp [stTl]
 | e + 1, i => by rw [stTl, ← List.append_assoc, show stps i ++ stp2 i = stps (i + 1) from rfl, stTl_stps e (i + 1)]; congr 1; omega
theorem stTl_all (m : Nat) : stTl 0 m = stps m := by have := stTl_stps m 0; rwa [show stps 0 = [] from rfl, List.nil_append, Nat.zero_add] at this
def code : Option ST → Int
 | none => 0
 | some s => if s.f1 = true then -s.f0 - 1 else s.f0 + 1
section
variable {n : Int} {l : List AI} (hN : Nok n l) (f : List Int) (hf : f.length = l.length) {d : List Int} (hB : Bnd n d) (v : Int) (hv : 0 ≤ v ∧ v < n)
include hN hf hB hv
theorem back_l0 : ∀ (e i : Nat), i + e = l.length → ∀ k, spec_l08Back.l0 (k + 2 * e + 1) f d v (i : Int) n l = some (code ((stTl i e).find? (fitB l f d v)))
 | 0, i, hi, k => by
  rw [show k + 2 * 0 + 1 = k + 1 by omega, spec_l08Back.l0, if_neg (by omega)]
  rfl
 | e + 1, i, hi, k => by
  have ih := back_l0 e (i + 1) (by omega) k
  have h : i < l.length := by omega
  obtain ⟨⟨a1, a2⟩, ⟨b1, b2⟩, _, ⟨r1, r2⟩, ⟨c1, c2⟩⟩ := hN.2.2 i (Nat.zero_le _) h
  have hl := hN.2.1
  have hdl := hB.1
  obtain ⟨e1, e2, e3, e4⟩ := arcF f i h
  obtain ⟨g1, g2, g3, g4⟩ := arcB f i h
  obtain ⟨u1, u2⟩ := hB.2 _ a1 a2
  obtain ⟨v1, v2⟩ := hB.2 _ b1 b2
  have hx := rdA_get l i h
  have hfF : fitB l f d v ⟨(i : Int), false⟩ = decide (l[i].f1 = v ∧ rd f (i : Int) < l[i].f2 ∧ rd d l[i].f0 < 1152921504606846976 ∧ rd d l[i].f0 + (10000 * l[i].f3 + 1) = rd d v) := by
   unfold fitB fit0
   rw [e1, e2, e3, e4, ← Bool.decide_and]
   exact decide_eq_decide.mpr ⟨fun h => ⟨h.1, by omega, h.2.2⟩, fun h => ⟨h.1, by omega, h.2.2⟩⟩
  have hfB : fitB l f d v ⟨(i : Int), true⟩ = decide (l[i].f0 = v ∧ rd f (i : Int) > 0 ∧ rd d l[i].f1 < 1152921504606846976 ∧ rd d l[i].f1 + (10000 * -l[i].f3 + 1) = rd d v) := by
   unfold fitB fit0
   rw [g1, g2, g3, g4, ← Bool.decide_and]
  have hj : ∀ b, b = fitB l f d v ⟨(i : Int), false⟩ → spec_l08Back.j1 (k + 2 * e + 2) f d v (i : Int) (10000 * l[i].f3) b n l l[i].f0 l[i].f1 l[i].f2 l[i].f3 = some (code ((stTl i (e + 1)).find? (fitB l f d v))) := fun b hb => by
   rw [stTl, show stp2 i ++ stTl (i + 1) e = ⟨(i : Int), false⟩ :: ⟨(i : Int), true⟩ :: stTl (i + 1) e from rfl, List.find?_cons, ← hb]
   cases b with
   | true =>
    rw [spec_l08Back.j1, if_pos rfl, wsucc i (by omega)]
    rfl
   | false =>
    simp only
    rw [List.find?_cons, spec_l08Back.j1, if_neg (by decide), w_c _ _ ⟨c1, c2⟩ ⟨v1, v2⟩, w_d i (by omega), wsucc i (by omega)]
    by_cases q1 : l[i].f0 = v
    ·by_cases q2 : rd f (i : Int) > 0
     ·by_cases q3 : rd d l[i].f1 < 1152921504606846976
      ·by_cases q4 : rd d l[i].f1 + (10000 * -l[i].f3 + 1) = rd d v
       ·rw [hfB, decide_eq_true ⟨q1, q2, q3, q4⟩, if_pos q1, if_pos (by omega), if_pos (by omega), if_pos q2, if_pos b1, if_pos (by omega), if_pos q3, if_pos hv.1, if_pos (by omega), if_pos q4]
        rfl
       ·rw [hfB, decide_eq_false (fun h => q4 h.2.2.2), if_pos q1, if_pos (by omega), if_pos (by omega), if_pos q2, if_pos b1, if_pos (by omega), if_pos q3, if_pos hv.1, if_pos (by omega), if_neg q4]
        exact ih
      ·rw [hfB, decide_eq_false (fun h => q3 h.2.2.1), if_pos q1, if_pos (by omega), if_pos (by omega), if_pos q2, if_pos b1, if_pos (by omega), if_neg q3]
       exact ih
     ·rw [hfB, decide_eq_false (fun h => q2 h.2.1), if_pos q1, if_pos (by omega), if_pos (by omega), if_neg q2]
      exact ih
    ·rw [hfB, decide_eq_false (fun h => q1 h.1), if_neg q1]
     exact ih
  rw [show k + 2 * (e + 1) + 1 = (k + 2 * e + 2) + 1 by omega, spec_l08Back.l0, if_pos (by omega), if_pos (by omega), if_pos (by omega), hx, w_a _ ⟨c1, c2⟩]
  by_cases q1 : l[i].f1 = v
  ·rw [if_pos q1]
   by_cases q2 : rd f (i : Int) < l[i].f2
   ·rw [if_pos q2, if_pos a1, if_pos (by omega)]
    by_cases q3 : rd d l[i].f0 < 1152921504606846976
    ·rw [if_pos q3, if_pos hv.1, if_pos (by omega), w_b _ _ ⟨c1, c2⟩ ⟨u1, u2⟩]
     refine hj _ ?_
     rw [hfF]
     by_cases q4 : rd d l[i].f0 + (10000 * l[i].f3 + 1) = rd d v
     ·rw [decide_eq_true ⟨q1, q2, q3, q4⟩, q4]; simp
     ·rw [decide_eq_false (fun h => q4 h.2.2.2)]; simp [q4]
    ·rw [if_neg q3]
     exact hj _ (by rw [hfF, decide_eq_false (fun h => q3 h.2.2.1)])
   ·rw [if_neg q2]
    exact hj _ (by rw [hfF, decide_eq_false (fun h => q2 h.2.1)])
  ·rw [if_neg q1]
   exact hj _ (by rw [hfF, decide_eq_false (fun h => q1 h.1)])
theorem back_ev (k : Nat) (hk : 2 * l.length + 1 ≤ k) : spec_l08Back.f k n l f d v = some (code ((stps l.length).find? (fitB l f d v))) := by
 obtain ⟨k, rfl⟩ : ∃ m, k = m + 2 * l.length + 1 := ⟨k - 2 * l.length - 1, by omega⟩
 unfold spec_l08Back.f
 rw [show (0 : Int) = ((0 : Nat) : Int) from rfl, back_l0 hN f hf hB v hv l.length 0 (by omega), stTl_all]
variable (hfl : FlFrom l f 0)
include hfl
theorem bk_l2 (x1 : Int) (LV EV : List (List ST)) (P : List ST) (hP : P.length ≤ 1500) (Y : List ST) (hYl : Y.length ≤ 6400) (hY : ∀ s ∈ Y, s ∈ stps l.length) (s : ST) : ∀ (e j : Nat), j + e = Y.length → (Y.drop j).find? (fit0 l f d v) = some s → ∃ c, ∀ k, impl_Cheapest.l2 (k + c) x1 LV EV f d P v Y (Y.length : Int) (j : Int) n l = impl_Cheapest.l1 k x1 LV EV f d (P ++ [s]) (stFrom l s) n l
 | 0, j, hj, h => by rw [List.drop_of_length_le (by omega)] at h; cases h
 | e + 1, j, hj, h => by
  have hjl : j < Y.length := by omega
  have hs : Y[j] ∈ stps l.length := hY _ (List.getElem_mem _)
  have hr : rd_T57 Y (j : Int) = Y[j] := by simp [rd_T57, hjl]
  have hdl := hB.1
  obtain ⟨hroom, hr0⟩ := room_ev hN hs f hf hfl
  obtain ⟨⟨f1, f2⟩, _, _, p1, p2⟩ := st_facts hN hs
  obtain ⟨u1, u2⟩ := hB.2 _ f1 f2
  have head : ∀ k, impl_Cheapest.l2 (k + 1) x1 LV EV f d P v Y (Y.length : Int) (j : Int) n l = (if fit0 l f d v Y[j] = true then impl_Cheapest.l1 k x1 LV EV f d (P ++ [Y[j]]) (stFrom l Y[j]) n l else impl_Cheapest.l2 k x1 LV EV f d P v Y (Y.length : Int) ((j + 1 : Nat) : Int) n l) := fun k => by
   rw [impl_Cheapest.l2, if_pos (by omega), if_pos (by omega), if_pos (by omega), hr, ends_ev hN hs, Option.bind_some, hroom, Option.bind_some]
   simp only
   rw [wsucc j (by omega)]
   unfold fit0
   by_cases c1 : stRm l f Y[j] > 0
   ·rw [if_pos c1, if_pos f1, if_pos (by omega)]
    by_cases c2 : rd d (stFrom l Y[j]) < 1152921504606846976
    ·rw [if_pos c2, length_ev hN hs, Option.bind_some, if_pos hv.1, if_pos (by omega), w_e _ _ ⟨p1, p2⟩ ⟨u1, u2⟩]
     by_cases c3 : rd d (stFrom l Y[j]) + (10000 * stPr l Y[j] + 1) = rd d v
     ·rw [if_pos c3, if_pos (by omega), decide_eq_true ⟨c1, c2, c3⟩, if_pos rfl]
     ·rw [if_neg c3, decide_eq_false (fun h => c3 h.2.2), if_neg (by decide)]
    ·rw [if_neg c2, decide_eq_false (fun h => c2 h.2.1), if_neg (by decide)]
   ·rw [if_neg c1, decide_eq_false (fun h => c1 h.1), if_neg (by decide)]
  rw [drop_cons Y j hjl, List.find?_cons] at h
  cases hb : fit0 l f d v Y[j] with
  | true =>
   rw [hb] at h
   injection h with h
   subst h
   exact ⟨1, fun k => by rw [head k, hb, if_pos rfl]⟩
  | false =>
   rw [hb] at h
   obtain ⟨c, hc⟩ := bk_l2 x1 LV EV P hP Y hYl hY s e (j + 1) (by omega) h
   exact ⟨c + 1, fun k => by rw [show k + (c + 1) = (k + c) + 1 by omega, head, hb, if_neg (by decide)]; exact hc k⟩
end
end Go.Proofs.Ytkdemainohfgfaa.Pure
/- One way of least length, pushed along: what both make of the flow. -/
namespace Go.Proofs.Ytkdemainohfgfaa.Pure
open Go.RowKit Go.Proofs.Ytkdemainohfgfaa.Q Go.Proofs.YtkdemainohfgfaaW.PrintWords Go.Proofs.YtkdemainohfgfaaW.PrintLast
def psh (g : List Int) (s : ST) : List Int := g.set s.f0.toNat (if s.f1 = true then wrap64 (rd g s.f0 - 1) else wrap64 (rd g s.f0 + 1))
theorem psh_len (g : List Int) (s : ST) : (psh g s).length = g.length := by simp [psh]
theorem fold_len : ∀ (P : List ST) (g : List Int), (P.foldl psh g).length = g.length
 | [], g => rfl
 | s :: P, g => by rw [List.foldl_cons, fold_len P, psh_len]
theorem pushed_ev (g : List Int) (s : ST) (h0 : 0 ≤ s.f0) (h1 : s.f0 < g.length) : impl_pushed.f g s.f0 s.f1 1 = some (psh g s) := by
 unfold impl_pushed.f psh
 cases s.f1 with
 | true => rw [if_pos rfl, if_pos h0, if_pos h1, if_pos rfl, w64 (x := -1) (by omega) (by omega)]; rfl
 | false => rw [if_neg (by decide), if_pos h0, if_pos h1, if_neg (by decide)]
def dl (a : Int) (z : Nat) : Int := if a = (z : Int) then 1 else 0
def Xs (l : List AI) (g : List Int) (z : Nat) : Nat → Int
 | 0 => 0
 | m + 1 => Xs l g z m + rd g (m : Int) * (dl (rdA l (m : Int)).f0 z - dl (rdA l (m : Int)).f1 z)
theorem Xs_set (l : List AI) (g : List Int) (z i : Nat) (x : Int) (hi : i < g.length) : ∀ m, Xs l (g.set i x) z m = Xs l g z m + (if i < m then (x - rd g (i : Int)) * (dl (rdA l (i : Int)).f0 z - dl (rdA l (i : Int)).f1 z) else 0)
 | 0 => by simp [Xs]
 | m + 1 => by
  rw [Xs, Xs, Xs_set l g z i x hi m, rd_setN g i m x hi]
  by_cases e : i = m
  ·subst e
   rw [if_pos rfl, if_neg (by omega), if_pos (by omega), Int.sub_mul]
   omega
  ·rw [if_neg e]
   by_cases c : i < m
   ·rw [if_pos c, if_pos (by omega)]; omega
   ·rw [if_neg c, if_neg (by omega)]; omega
section
variable (n : Int) (l : List AI) (f d : List Int) (q : Nat → Int)
def mm (z : Int) : Int := rd d z - 10000 * q z.toNat
structure Ph (v : Nat) (P : List ST) (g : List Int) : Prop where
 fold : g = P.foldl psh f
 vn : v < n.toNat ∧ rd d (v : Int) < 1152921504606846976
 steps : ∀ s ∈ P, s ∈ stps l.length
 chg : ∀ i : Nat, (h : i < l.length) → rd g (i : Int) = rd f (i : Int) ∨ ((0 ≤ rd g (i : Int) ∧ rd g (i : Int) ≤ l[i].f2) ∧ (mm d q (v : Int) < mm d q l[i].f0 ∨ mm d q (v : Int) < mm d q l[i].f1) ∧ pot n.toNat q d (l[i].f1).toNat = pot n.toNat q d (l[i].f0).toNat + l[i].f3)
 bal : ∀ z : Nat, Xs l g z l.length = Xs l f z l.length + dl (v : Int) z - dl 1 z
 seen : ∃ L : List Nat, L.Nodup ∧ L.length = P.length + 1 ∧ ∀ z ∈ L, z < n.toNat ∧ mm d q (v : Int) ≤ mm d q (z : Int)
end
section
variable {n : Int} {l : List AI} (hN : Nok n l) (f : List Int) (hf : f.length = l.length) (hfl : FlFrom l f 0) (q : Nat → Int) (hq : ∀ u v c, Res l f u v c → q v ≤ q u + c) (R : Int) (hR : ∀ v, 0 ≤ q v ∧ q v ≤ R) (hR8 : R ≤ 100000000) {d : List Int} (hL : Lab n.toNat (Res l f) d)
include hN hf hfl hq hR hR8 hL
theorem fit_ex (v : Nat) (hv : v < n.toNat) (hv0 : v ≠ 0) (hd : rd d (v : Int) < 1152921504606846976) : ∃ s, (stps l.length).find? (fitB l f d (v : Int)) = some s ∧ s ∈ stps l.length ∧ stTo l s = (v : Int) ∧ 0 < stRm l f s ∧ rd d (stFrom l s) < 1152921504606846976 ∧ rd d (v : Int) = rd d (stFrom l s) + (10000 * stPr l s + 1) := by
 have hn := hN.1
 obtain ⟨u, c, ⟨s, hs, h1, h2, h3, h4⟩, hu, he⟩ := lab_step (n := n.toNat) (by omega) (by omega) (res_ok hN f) q hq R hR hL v hv hv0 hd
 have hb : fitB l f d (v : Int) s = true := by
  unfold fitB fit0
  rw [← Bool.decide_and]
  exact decide_eq_true ⟨h3, h1, by rw [h2]; exact hu, by rw [h2, h4, he]⟩
 cases hx : (stps l.length).find? (fitB l f d (v : Int)) with
 | none =>
  have := List.find?_eq_none.mp hx s hs
  exact absurd hb this
 | some s' =>
  have m := List.mem_of_find?_eq_some hx
  have p := List.find?_some hx
  unfold fitB fit0 at p
  rw [← Bool.decide_and] at p
  obtain ⟨a1, a2, a3, a4⟩ := of_decide_eq_true p
  exact ⟨s', rfl, m, a1, a2, a3, a4.symm⟩
theorem ph_step {v : Nat} {P : List ST} {g : List Int} (h : Ph n l f d q v P g) {s : ST} (hs : s ∈ stps l.length) (ht : stTo l s = (v : Int)) (h1 : 0 < stRm l f s) (h2 : rd d (stFrom l s) < 1152921504606846976) (h3 : rd d (v : Int) = rd d (stFrom l s) + (10000 * stPr l s + 1)) : Ph n l f d q (stFrom l s).toNat (P ++ [s]) (psh g s) ∧ mm d q (stFrom l s) < mm d q (v : Int) := by
 have hn := hN.1
 obtain ⟨⟨f1, f2⟩, ⟨t1, t2⟩, hne, p1, p2⟩ := st_facts hN hs
 obtain ⟨i, hi, hs0, hA, ⟨a1, a2⟩, ⟨b1, b2⟩, hab, ⟨r1, r2⟩, ⟨c1, c2⟩⟩ := st_arc hN hs
 have hres := res_of hN f hs h1
 have hpot := hq _ _ _ hres
 have hpt := pot_tight (n := n.toNat) (by omega) (by omega) (res_ok hN f) q hq R hR hL _ _ _ hres (by rw [show (((stFrom l s).toNat : Nat) : Int) = stFrom l s by omega]; exact h2) (by rw [show (((stFrom l s).toNat : Nat) : Int) = stFrom l s by omega, show (((stTo l s).toNat : Nat) : Int) = stTo l s by omega, ht]; exact h3)
 have hmm : mm d q (stFrom l s) < mm d q (v : Int) := by
  unfold mm
  rw [ht] at hpot
  omega
 have hu : (((stFrom l s).toNat : Nat) : Int) = stFrom l s := by omega
 -- the arc's ends
 have hends : (l[i].f0 = stFrom l s ∧ l[i].f1 = (v : Int) ∧ s.f1 = false ∧ l[i].f3 = stPr l s ∧ stRm l f s = l[i].f2 - rd f (i : Int)) ∨ (l[i].f0 = (v : Int) ∧ l[i].f1 = stFrom l s ∧ s.f1 = true ∧ l[i].f3 = -stPr l s ∧ stRm l f s = rd f (i : Int)) := by
  unfold stFrom stTo stPr stRm at *
  rw [hA] at ht ⊢
  rw [hs0] at *
  cases hb : s.f1 with
  | false => left; rw [hb] at ht; simp only [Bool.false_eq_true, reduceIte] at ht ⊢; exact ⟨True.intro, ht, True.intro, True.intro, True.intro⟩
  | true => right; rw [hb] at ht; simp only [reduceIte] at ht ⊢; exact ⟨ht, True.intro, True.intro, by omega, True.intro⟩
 have hgl : g.length = l.length := by rw [h.fold, fold_len, hf]
 have hsame : rd g (i : Int) = rd f (i : Int) := by
  rcases h.chg i hi with e | ⟨_, e, _⟩
  ·exact e
  ·exfalso
   rcases hends with ⟨x1, x2, _⟩ | ⟨x1, x2, _⟩
   ·rw [x1, x2] at e; omega
   ·rw [x1, x2] at e; omega
 have hx := hfl i (Nat.zero_le _) hi
 have hval : ∃ y : Int, psh g s = g.set i y ∧ (0 ≤ y ∧ y ≤ l[i].f2) ∧ (y - rd g (i : Int) = if s.f1 = true then -1 else 1) := by
  unfold psh
  rw [hs0, Int.toNat_natCast, hsame]
  rcases hends with ⟨_, _, x3, _, x5⟩ | ⟨_, _, x3, _, x5⟩
  ·rw [x3]
   refine ⟨rd f (i : Int) + 1, ?_, ⟨by omega, by omega⟩, ?_⟩
   ·rw [if_neg (by decide), w64 (by omega) (by omega)]
   ·rw [if_neg (by decide)]; omega
  ·rw [x3]
   refine ⟨rd f (i : Int) - 1, ?_, ⟨by omega, by omega⟩, ?_⟩
   ·rw [if_pos rfl, w64 (by omega) (by omega)]
   ·rw [if_pos rfl]; omega
 obtain ⟨y, hy, hyb, hyd⟩ := hval
 refine ⟨⟨by rw [List.foldl_append, ← h.fold]; rfl, ⟨by omega, by rw [hu]; exact h2⟩, fun s' hs' => ?_, fun j hj => ?_, fun z => ?_, ?_⟩, hmm⟩
 ·rcases List.mem_append.mp hs' with e | e
  ·exact h.steps s' e
  ·rw [List.mem_singleton.mp e]; exact hs
 ·rw [hy, rd_setN g i j y (by omega), hu]
  by_cases e : i = j
  ·subst e
   rw [if_pos rfl]
   right
   refine ⟨hyb, ?_, ?_⟩
   ·rcases hends with ⟨x1, x2, _⟩ | ⟨x1, x2, _⟩
    ·right; rw [x2]; exact hmm
    ·left; rw [x1]; exact hmm
   ·rw [ht] at hpt
    rcases hends with ⟨x1, x2, _, x4, _⟩ | ⟨x1, x2, _, x4, _⟩
    ·rw [x1, x2, x4]; exact hpt
    ·rw [x1, x2, x4]; omega
  ·rw [if_neg e]
   rcases h.chg j hj with c | ⟨c1, c2, c3⟩
   ·exact .inl c
   ·exact .inr ⟨c1, by omega, c3⟩
 ·have hXs := Xs_set l g z i y (by omega) l.length
  rw [if_pos hi, hyd, show rdA l (i : Int) = l[i] from rdA_get l i hi] at hXs
  rw [hy, hXs, h.bal z, hu]
  rcases hends with ⟨x1, x2, x3, _⟩ | ⟨x1, x2, x3, _⟩
  ·rw [x1, x2, x3, if_neg (by decide)]; omega
  ·rw [x1, x2, x3, if_pos rfl]; omega
 ·obtain ⟨L, l1, l2, l3⟩ := h.seen
  refine ⟨(stFrom l s).toNat :: L, List.nodup_cons.mpr ⟨fun hm => ?_, l1⟩, by rw [List.length_cons, List.length_append, List.length_singleton, l2], fun z hz => ?_⟩
  ·have := (l3 _ hm).2
   rw [hu] at this
   omega
  ·rcases List.mem_cons.mp hz with e | e
   ·rw [e]; exact ⟨by omega, Int.le_refl _⟩
   ·have := l3 z e
    rw [hu]
    exact ⟨this.1, by omega⟩
theorem ph_len {v : Nat} {P : List ST} {g : List Int} (h : Ph n l f d q v P g) : (P.length : Int) + 1 ≤ n := by
 obtain ⟨L, l1, l2, l3⟩ := h.seen
 have := php n.toNat L l1 (fun z hz => (l3 z hz).1)
 omega
theorem ph_walk (sz kx x1 : Int) (g0 : List Int) : ∀ (M : Nat) (v : Nat) (P : List ST) (g : List Int), mm d q (v : Int) - mm d q 0 ≤ (M : Int) → Ph n l f d q v P g → ∃ P' g' c c', Ph n l f d q 0 P' g' ∧ (∀ k, 2 * l.length + 1 ≤ k → spec_Cheapest.l1 (k + c) sz f kx d g (v : Int) (P.length : Int) n l = spec_Cheapest.l0 k sz g' (wrap64 (kx + 1)) n l) ∧ (∀ k, impl_Cheapest.l1 (k + c') x1 (grp (stFrom l) n.toNat (stps l.length)) (grp (stTo l) n.toNat (stps l.length)) f d P (v : Int) n l = impl_Cheapest.l3 k x1 (grp (stFrom l) n.toNat (stps l.length)) (grp (stTo l) n.toNat (stps l.length)) f P' (P'.length : Int) 0 n l) := by
 intro M
 induction M with
 | zero =>
  intro v P g hM h
  have hn := hN.1
  by_cases hv0 : v = 0
  ·subst hv0
   refine ⟨P, g, 2, 1, h, fun k hk => ?_, fun k => ?_⟩
   ·rw [show k + 2 = (k + 1) + 1 by omega, spec_Cheapest.l1, if_pos (by omega), spec_Cheapest.j3, if_neg (by decide)]
   ·rw [impl_Cheapest.l1, if_pos (by omega)]
  ·exfalso
   obtain ⟨s, _, hs, ht, h1, h2, h3⟩ := fit_ex hN f hf hfl q hq R hR hR8 hL v h.vn.1 hv0 h.vn.2
   obtain ⟨i, hlt⟩ := ph_step hN f hf hfl q hq R hR hR8 hL h hs ht h1 h2 h3
   obtain ⟨⟨f1, f2⟩, _⟩ := st_facts hN hs
   have hz := okd_zero q hq R hR hL.toOkd (by omega)
   rcases hL.fin (stFrom l s).toNat (by omega) with e | ⟨_, k, hw⟩
   ·rw [show (((stFrom l s).toNat : Nat) : Int) = stFrom l s by omega] at e; omega
   ·have := wy_pot q hq hw
    rw [show (((stFrom l s).toNat : Nat) : Int) = stFrom l s by omega] at this
    unfold mm at hM hlt
    rw [show ((0 : Nat) : Int) = 0 from rfl] at hz
    rw [hz, show ((0 : Int)).toNat = 0 from rfl] at hM
    omega
 | succ M ih =>
  intro v P g hM h
  have hn := hN.1
  by_cases hv0 : v = 0
  ·subst hv0
   refine ⟨P, g, 2, 1, h, fun k hk => ?_, fun k => ?_⟩
   ·rw [show k + 2 = (k + 1) + 1 by omega, spec_Cheapest.l1, if_pos (by omega), spec_Cheapest.j3, if_neg (by decide)]
   ·rw [impl_Cheapest.l1, if_pos (by omega)]
  ·obtain ⟨s, hfd, hs, ht, h1, h2, h3⟩ := fit_ex hN f hf hfl q hq R hR hR8 hL v h.vn.1 hv0 h.vn.2
   obtain ⟨hph, hlt⟩ := ph_step hN f hf hfl q hq R hR hR8 hL h hs ht h1 h2 h3
   obtain ⟨⟨f1, f2⟩, _⟩ := st_facts hN hs
   have hu : (((stFrom l s).toNat : Nat) : Int) = stFrom l s := by omega
   obtain ⟨P', g', c, c', w1, w2, w3⟩ := ih _ _ _ (by rw [hu]; omega) hph
   have hlen := ph_len hN f hf hfl q hq R hR hR8 hL h
   have hB := okd_bnd f q hq R hR hR8 (by omega) hL.toOkd
   have hgl : g.length = l.length := by rw [h.fold, fold_len, hf]
   obtain ⟨i, hi, hs0, hA, _⟩ := st_arc hN hs
   have hvn := h.vn.1
   obtain ⟨cc, hcc⟩ := bk_l2 hN f hf hB (v : Int) ⟨by omega, by omega⟩ hfl x1 (grp (stFrom l) n.toNat (stps l.length)) (grp (stTo l) n.toNat (stps l.length)) P (by omega) ((stps l.length).filter (fun s => decide (stTo l s = (v : Int)))) (by
    have := List.length_filter_le (fun s => decide (stTo l s = (v : Int))) (stps l.length)
    rw [stps_len] at this
    have := hN.2.1
    omega) (fun s hs => (List.mem_filter.mp hs).1) s _ 0 (Nat.zero_add _) (by
     rw [List.drop_zero, List.find?_filter, show (fun a => decide (decide (stTo l a = (v : Int)) = true ∧ fit0 l f d (v : Int) a = true)) = fitB l f d (v : Int) from funext fun a => by simp [fitB, Bool.decide_and]]
     exact hfd)
   refine ⟨P', g', c + 2, c' + cc + 1, w1, fun k hk => ?_, fun k => ?_⟩
   ·have w2' := w2 k hk
    rw [hu, List.length_append, List.length_singleton] at w2'
    rw [show k + (c + 2) = (k + c + 1) + 1 by omega, spec_Cheapest.l1, if_neg (by omega), decide_eq_true (by omega), spec_Cheapest.j3, if_pos rfl, back_ev hN f hf hB (v : Int) ⟨by omega, by omega⟩ _ (by omega), Option.bind_some, hfd]
    have hl2 := hN.2.1
    rw [← w2']
    unfold psh
    unfold stFrom
    rw [hA, hs0, Int.toNat_natCast, wsucc P.length (by omega)]
    rw [show code (some s) = (if s.f1 = true then -s.f0 - 1 else s.f0 + 1) from rfl, hs0]
    cases s.f1 with
    | false =>
     simp only [Bool.false_eq_true, reduceIte]
     rw [if_pos (by omega), show wrap64 ((i : Int) + 1 - 1) = (i : Int) by rw [w64 (by omega) (by omega)]; omega, if_pos (by omega), if_pos (by omega), if_pos (by omega), Int.toNat_natCast, rdA_get l i hi]
    | true =>
     simp only [reduceIte]
     rw [if_neg (by omega), if_pos (by omega), show wrap64 ((wrap64 (-(-(i : Int) - 1))) - 1) = (i : Int) by rw [w64 (x := -(-(i : Int) - 1)) (by omega) (by omega), w64 (by omega) (by omega)]; omega, if_pos (by omega), if_pos (by omega), if_pos (by omega), Int.toNat_natCast, rdA_get l i hi]
   ·have w3' := w3 k
    rw [hu] at w3'
    rw [← w3', show k + (c' + cc + 1) = (k + c' + cc) + 1 by omega, impl_Cheapest.l1, if_neg (by omega), if_pos (by omega), if_pos (by rw [grp_len]; omega), grp_rd _ _ _ _ (by omega) (by omega)]
    exact hcc (k + c')
theorem push_l3 (x1 : Int) (LV EV : List (List ST)) (P : List ST) (hP : ∀ s ∈ P, s ∈ stps l.length) (hPl : P.length ≤ 1500) : ∀ (e j : Nat) (g : List Int), j + e = P.length → g.length = l.length → ∀ k, impl_Cheapest.l3 (k + e + 1) x1 LV EV g P (P.length : Int) (j : Int) n l = impl_Cheapest.l0 k (wrap64 (x1 - 1)) LV EV ((P.drop j).foldl psh g) n l
 | 0, j, g, hj, hg, k => by
  rw [show k + 0 + 1 = k + 1 by omega, impl_Cheapest.l3, if_neg (by omega), List.drop_of_length_le (by omega)]
  rfl
 | e + 1, j, g, hj, hg, k => by
  have hjl : j < P.length := by omega
  have hs : P[j] ∈ stps l.length := hP _ (List.getElem_mem _)
  have hr : rd_T57 P (j : Int) = P[j] := by simp [rd_T57, hjl]
  obtain ⟨i, hi, hs0, _⟩ := st_arc hN hs
  rw [show k + (e + 1) + 1 = (k + e + 1) + 1 by omega, impl_Cheapest.l3, if_pos (by omega), if_pos (by omega), if_pos (by omega), hr, pushed_ev g _ (by omega) (by omega), Option.bind_some, wsucc j (by omega), push_l3 x1 LV EV P hP hPl e (j + 1) _ (by omega) (by rw [psh_len]; exact hg), drop_cons P j hjl]
  rfl
end
end Go.Proofs.Ytkdemainohfgfaa.Pure
/- The cheapest flow: one unit after the other, both come to the same. -/
namespace Go.Proofs.Ytkdemainohfgfaa.Pure
open Go.RowKit Go.Proofs.Ytkdemainohfgfaa.Q Go.Proofs.YtkdemainohfgfaaW.PrintWords Go.Proofs.YtkdemainohfgfaaW.PrintLast
theorem dl_mul (x a b : Int) (z : Nat) : x * (dl a z - dl b z) = (if a = (z : Int) then x else 0) - (if b = (z : Int) then x else 0) := by
 unfold dl
 by_cases c1 : a = (z : Int) <;> by_cases c2 : b = (z : Int) <;> simp only [c1, c2, if_true, if_false, reduceIte] <;> (first | omega | (simp))
theorem Xs_bnd (l : List AI) (f : List Int) (hfl : FlFrom l f 0) (hl : ∀ i : Nat, (h : i < l.length) → l[i].f2 ≤ 20) (z : Nat) : ∀ m, m ≤ l.length → -(20 * (m : Int)) ≤ Xs l f z m ∧ Xs l f z m ≤ 20 * (m : Int)
 | 0, _ => by simp [Xs]
 | m + 1, hm => by
  have ih := Xs_bnd l f hfl hl z m (by omega)
  have h1 := hfl m (Nat.zero_le _) (by omega)
  have h2 := hl m (by omega)
  rw [Xs, dl_mul]
  split <;> split <;> omega
section
variable {n : Int} {l : List AI} (hN : Nok n l) (f : List Int) (hf : f.length = l.length) (hfl : FlFrom l f 0)
include hN hf hfl
theorem out_l0 : ∀ (e i : Nat) (p : List Int), i + e = l.length → (p.length : Int) = n → (∀ z : Nat, z < n.toNat → rd p (z : Int) = Xs l f z i) → ∃ p', ((p'.length : Int) = n ∧ ∀ z : Nat, z < n.toNat → rd p' (z : Int) = Xs l f z l.length) ∧ ∀ k, spec_l06Out.l0 (k + e + 1) f p (i : Int) n l = some p'
 | 0, i, p, hi, hp, h => by
  obtain rfl : i = l.length := by omega
  refine ⟨p, ⟨hp, h⟩, fun k => ?_⟩
  rw [show k + 0 + 1 = k + 1 by omega, spec_l06Out.l0, if_neg (by omega)]
 | e + 1, i, p, hi, hp, h => by
  have hil : i < l.length := by omega
  obtain ⟨⟨a1, a2⟩, ⟨b1, b2⟩, hab, _⟩ := hN.2.2 i (Nat.zero_le _) hil
  have hl := hN.2.1
  have hx := rdA_get l i hil
  have hfi := hfl i (Nat.zero_le _) hil
  have hr := (hN.2.2 i (Nat.zero_le _) hil).2.2.2.1
  have hbd := fun z => Xs_bnd l f hfl (fun j hj => (hN.2.2 j (Nat.zero_le _) hj).2.2.2.1.2) z i (by omega)
  have hpa : -(20 * (i : Int)) ≤ rd p l[i].f0 ∧ rd p l[i].f0 ≤ 20 * (i : Int) := by
   have := h l[i].f0.toNat (by omega)
   rw [show ((l[i].f0.toNat : Nat) : Int) = l[i].f0 by omega] at this
   rw [this]; exact hbd _
  have hpb : -(20 * (i : Int)) ≤ rd p l[i].f1 ∧ rd p l[i].f1 ≤ 20 * (i : Int) := by
   have := h l[i].f1.toNat (by omega)
   rw [show ((l[i].f1.toNat : Nat) : Int) = l[i].f1 by omega] at this
   rw [this]; exact hbd _
  have hy : rd (p.set l[i].f0.toNat (rd p l[i].f0 + rd f (i : Int))) l[i].f1 = rd p l[i].f1 := by rw [rd_setA p _ _ a1 (by omega) _ b1, if_neg (fun e => hab e.symm)]
  have hyl : (p.set l[i].f0.toNat (rd p l[i].f0 + rd f (i : Int))).length = p.length := List.length_set ..
  obtain ⟨p', g1, g2⟩ := out_l0 e (i + 1) ((p.set l[i].f0.toNat (rd p l[i].f0 + rd f (i : Int))).set l[i].f1.toNat (rd p l[i].f1 - rd f (i : Int))) (by omega) (by rw [List.length_set, hyl]; exact hp) (fun z hz => by
   rw [rd_setA _ _ _ b1 (by rw [hyl]; omega) _ (by omega), rd_setA p _ _ a1 (by omega) _ (by omega), Xs, show rdA l (i : Int) = l[i] from hx, dl_mul, ← h z hz]
   by_cases c1 : (z : Int) = l[i].f1
   ·rw [if_pos c1, if_neg (fun e => hab (e.trans c1)), if_pos c1.symm, ← c1]; omega
   ·by_cases c2 : (z : Int) = l[i].f0
    ·rw [if_neg c1, if_pos c2, if_pos c2.symm, if_neg (fun e => c1 e.symm), ← c2]; omega
    ·rw [if_neg c1, if_neg c2, if_neg (fun e => c2 e.symm), if_neg (fun e => c1 e.symm)]; omega)
  refine ⟨p', g1, fun k => ?_⟩
  rw [show k + (e + 1) + 1 = (k + e + 1) + 1 by omega, spec_l06Out.l0, if_pos (by omega), if_pos (by omega), if_pos (by omega), hx, if_pos a1, if_pos (by omega), w64 (x := rd p l[i].f0 + rd f (i : Int)) (by omega) (by omega), Option.bind_some, if_pos b1, if_pos (by omega), hy, w64 (x := rd p l[i].f1 - rd f (i : Int)) (by omega) (by omega), wsucc i (by omega)]
  exact g2 k
theorem out_ev : ∃ p, ((p.length : Int) = n ∧ ∀ z : Nat, z < n.toNat → rd p (z : Int) = Xs l f z l.length) ∧ ∃ K, ∀ k, K ≤ k → spec_l06Out.f k n l f = some p := by
 have hn := hN.1
 obtain ⟨p, h1, h2⟩ := out_l0 hN f hf hfl l.length 0 (List.replicate n.toNat 0) (by omega) (by simp; omega) (fun z hz => by rw [rd_zer]; rfl)
 refine ⟨p, h1, l.length + 1, fun k hk => ?_⟩
 obtain ⟨k, rfl⟩ : ∃ m, k = m + l.length + 1 := ⟨k - l.length - 1, by omega⟩
 unfold spec_l06Out.f
 rw [if_pos (by omega), if_pos (by omega)]
 exact h2 k
theorem ok_l1 (p : List Int) (hp : (p.length : Int) = n) (h0 : ∀ z : Nat, 2 ≤ z → z < n.toNat → rd p (z : Int) = 0) : ∀ (e i : Nat), (i : Int) + e = n → 2 ≤ i → ∀ k, spec_FlowOk.l1 (k + e + 1) p (i : Int) n l = some true
 | 0, i, hi, h2, k => by rw [show k + 0 + 1 = k + 1 by omega, spec_FlowOk.l1, if_neg (by omega)]
 | e + 1, i, hi, h2, k => by
  have hn := hN.1
  rw [show k + (e + 1) + 1 = (k + e + 1) + 1 by omega, spec_FlowOk.l1, if_pos (by omega), if_pos (by omega), if_pos (by omega), if_pos (h0 i h2 (by omega)), wsucc i (by omega)]
  exact ok_l1 p hp h0 e (i + 1) (by omega) (by omega) k
variable (hbal : ∀ z : Nat, 2 ≤ z → Xs l f z l.length = 0)
include hbal
theorem ok_l0 : ∀ (e i : Nat), i + e = l.length → ∃ K, ∀ k, K ≤ k → spec_FlowOk.l0 k f (i : Int) n l = some true
 | 0, i, hi => by
  have hn := hN.1
  obtain ⟨p, ⟨h1, h2⟩, K, h3⟩ := out_ev hN f hf hfl
  refine ⟨K + n.toNat + 2, fun k hk => ?_⟩
  obtain ⟨k, rfl⟩ : ∃ m, k = (m + (n.toNat - 2) + 1) + 1 := ⟨k - (n.toNat - 2) - 2, by omega⟩
  rw [spec_FlowOk.l0, if_neg (by omega), h3 _ (by omega), Option.bind_some, show (2 : Int) = ((2 : Nat) : Int) from rfl]
  exact ok_l1 hN f hf hfl p h1 (fun z hz hz2 => by rw [h2 z hz2]; exact hbal z hz) (n.toNat - 2) 2 (by omega) (Nat.le_refl _) k
 | e + 1, i, hi => by
  have hil : i < l.length := by omega
  obtain ⟨K, h⟩ := ok_l0 e (i + 1) (by omega)
  have hl := hN.2.1
  refine ⟨K + 1, fun k hk => ?_⟩
  obtain ⟨k, rfl⟩ : ∃ m, k = m + 1 := ⟨k - 1, by omega⟩
  rw [spec_FlowOk.l0, if_pos (by omega), if_pos (by omega), if_pos (by omega), rdA_get l i hil, l01In_eq, Option.bind_some, decide_eq_true (hfl i (Nat.zero_le _) hil), if_pos rfl, wsucc i (by omega)]
  exact h k (by omega)
theorem flowOk_ev : ∃ K, ∀ k, K ≤ k → spec_FlowOk.f k n l f = some true := by
 have hl := hN.2.1
 obtain ⟨g, K1, h1, h2⟩ := net_ev n l (by omega)
 obtain ⟨K2, h3⟩ := ok_l0 hN f hf hfl hbal l.length 0 (by omega)
 obtain rfl := h2.mpr hN
 refine ⟨K1 + K2 + 1, fun k hk => ?_⟩
 unfold spec_FlowOk.f
 rw [(h1 k (by omega)).1, Option.bind_some, if_pos rfl]
 obtain ⟨k, rfl⟩ : ∃ m, k = m + 1 := ⟨k - 1, by omega⟩
 rw [spec_FlowOk.j0, show ((f.length : Int) != (l.length : Int)) = false by rw [hf]; simp, if_neg (by decide)]
 exact h3 k (by omega)
theorem cost_ev : ∃ c K, ∀ k, K ≤ k → spec_FlowCost.f k n l f = some c ∧ impl_costOf.f k n l f = some c := by
 obtain ⟨K, h⟩ := flowOk_ev hN f hf hfl hbal
 have hl := hN.2.1
 have key : ∀ (e i : Nat) (x : Int), i + e = l.length → ∃ c, ∀ k, spec_FlowCost.l0 (k + e + 1) f x (i : Int) n l = some c ∧ impl_costOf.l0 (k + e + 1) f x l (l.length : Int) (i : Int) = some c := by
  intro e
  induction e with
  | zero =>
   intro i x hi
   refine ⟨x, fun k => ?_⟩
   rw [show k + 0 + 1 = k + 1 by omega, spec_FlowCost.l0, impl_costOf.l0, if_neg (by omega), if_neg (by omega)]
   exact ⟨rfl, rfl⟩
  | succ e ih =>
   intro i x hi
   obtain ⟨c, hc⟩ := ih (i + 1) (wrap64 (x + wrap64 (rd f (i : Int) * (rd_T53 l (i : Int)).f3))) (by omega)
   refine ⟨c, fun k => ?_⟩
   rw [show k + (e + 1) + 1 = (k + e + 1) + 1 by omega, spec_FlowCost.l0, impl_costOf.l0, if_pos (by omega), if_pos (by omega), if_pos (by omega), if_pos (by omega), if_pos (by omega), if_pos (by omega), if_pos (by omega), wsucc i (by omega)]
   exact hc k
 obtain ⟨c, hc⟩ := key l.length 0 0 (by omega)
 refine ⟨c, K + l.length + 1, fun k hk => ?_⟩
 have e1 := h k (by omega)
 obtain ⟨k, rfl⟩ : ∃ m, k = m + l.length + 1 := ⟨k - l.length - 1, by omega⟩
 unfold spec_FlowCost.f impl_costOf.f
 rw [e1, Option.bind_some, if_pos rfl]
 exact hc k
end
structure FInv (n : Int) (l : List AI) (kx : Nat) (f : List Int) : Prop where
 len : f.length = l.length
 fl : FlFrom l f 0
 bal : ∀ z : Nat, 2 ≤ z → Xs l f z l.length = 0
 pot : ∃ q : Nat → Int, (∀ u v c, Res l f u v c → q v ≤ q u + c) ∧ ∀ v, 0 ≤ q v ∧ q v ≤ 300000 * (kx : Int)
section
variable {n : Int} {l : List AI} (hN : Nok n l)
include hN
theorem finv_zero : FInv n l 0 (List.replicate l.length 0) := by
 refine ⟨by simp, fun j _ hj => ?_, fun z _ => ?_, fun _ => 0, fun u v c hr => ?_, fun v => by show (0 : Int) ≤ 0 ∧ (0 : Int) ≤ 300000 * ((0 : Nat) : Int); omega⟩
 ·rw [rd_zer]
  have := (hN.2.2 j (Nat.zero_le _) hj).2.2.2.1
  omega
 ·have : ∀ m, Xs l (List.replicate l.length 0) z m = 0 := by
   intro m
   induction m with
   | zero => rfl
   | succ m ih => rw [Xs, ih, rd_zer]; simp
  exact this _
 ·obtain ⟨s, hs, h1, _, _, h4⟩ := hr
  obtain ⟨i, hi, hs0, hA, _, _, _, _, ⟨c1, c2⟩⟩ := st_arc hN hs
  unfold stRm at h1
  unfold stPr at h4
  rw [hA] at h1 h4
  rw [hs0, rd_zer] at h1
  show (0 : Int) ≤ 0 + c
  cases hb : s.f1 with
  | false => rw [hb] at h4; simp only [Bool.false_eq_true, reduceIte] at h4; omega
  | true => rw [hb] at h1; simp at h1
theorem finv_next {kx : Nat} {f : List Int} (h : FInv n l kx f) (hk : kx ≤ 16) {d : List Int} {q : Nat → Int} (hq : ∀ u v c, Res l f u v c → q v ≤ q u + c) (hR : ∀ v, 0 ≤ q v ∧ q v ≤ 300000 * (kx : Int)) (hL : Lab n.toNat (Res l f) d) {P : List ST} {g : List Int} (hp : Ph n l f d q 0 P g) : FInv n l (kx + 1) g := by
 have hn := hN.1
 have hgl : g.length = l.length := by rw [hp.fold, fold_len, h.len]
 refine ⟨hgl, fun j _ hj => ?_, fun z hz => ?_, fun v => if v < n.toNat then pot n.toNat q d v else 0, fun u v c hr => ?_, fun v => ?_⟩
 ·rcases hp.chg j hj with e | ⟨e, _⟩
  ·rw [e]; exact h.fl j (Nat.zero_le _) hj
  ·exact e
 ·rw [hp.bal z, h.bal z hz]
  unfold dl
  rw [if_neg (by omega), if_neg (by omega)]
  rfl
 ·obtain ⟨⟨hu, hv⟩, _⟩ := res_ok hN g u v c hr
  simp only
  rw [if_pos hu, if_pos hv]
  obtain ⟨s, hs, h1, h2, h3, h4⟩ := hr
  obtain ⟨i, hi, hs0, hA, _⟩ := st_arc hN hs
  rcases hp.chg i hi with e | ⟨_, _, e⟩
  ·refine pot_step (n := n.toNat) (by omega) (by omega) (res_ok hN f) q hq _ hR hL u v c ⟨s, hs, ?_, h2, h3, h4⟩
   unfold stRm at h1 ⊢
   rw [hs0] at h1 ⊢
   rw [e] at h1
   exact h1
  ·unfold stFrom at h2
   unfold stTo at h3
   unfold stPr at h4
   rw [hA] at h2 h3 h4
   cases hb : s.f1 with
   | false =>
    rw [hb] at h2 h3 h4
    simp only [Bool.false_eq_true, reduceIte] at h2 h3 h4
    rw [h2, h3, h4, Int.toNat_natCast, Int.toNat_natCast] at e
    omega
   | true =>
    rw [hb] at h2 h3 h4
    simp only [reduceIte] at h2 h3 h4
    rw [h2, h3, Int.toNat_natCast, Int.toNat_natCast] at e
    omega
 ·simp only
  split
  ·rename_i hv
   have := pot_range (n := n.toNat) (by omega) (by omega) (res_ok hN f) q hq _ hR hL v hv
   omega
  ·omega
theorem ch_l0 (sz : Nat) (hsz : sz ≤ 16) : ∀ (e kx : Nat) (f : List Int), kx + e = sz → FInv n l kx f → ∃ r K, r.1.length ≤ 3200 ∧ ∀ k, K ≤ k → spec_Cheapest.l0 k (sz : Int) f (kx : Int) n l = some r ∧ impl_Cheapest.l0 k ((sz : Int) - (kx : Int)) (grp (stFrom l) n.toNat (stps l.length)) (grp (stTo l) n.toNat (stps l.length)) f n l = some r
 | 0, kx, f, hk, h => by
  obtain ⟨c, K, hc⟩ := cost_ev hN f h.len h.fl h.bal
  have hl := hN.2.1
  refine ⟨(f, c, true), K + 1, by simp only; rw [h.len]; exact hl, fun k hk => ?_⟩
  obtain ⟨k, rfl⟩ : ∃ m, k = m + 1 := ⟨k - 1, by omega⟩
  rw [spec_Cheapest.l0, impl_Cheapest.l0, if_neg (by omega), if_neg (by omega), (hc k (by omega)).1, (hc k (by omega)).2]
  exact ⟨rfl, rfl⟩
 | e + 1, kx, f, hk, h => by
  have hn := hN.1
  have hl := hN.2.1
  obtain ⟨q, hq, hR⟩ := h.pot
  obtain ⟨dS, hL, K1, h1⟩ := di_ev hN f h.len h.fl q hq _ hR (by omega)
  obtain ⟨K2, h2⟩ := far_ev hN f h.len q hq _ hR (by omega) hL
  have hdl := hL.len
  by_cases c : rd dS 1 = 1152921504606846976
  ·refine ⟨([], 0, false), K1 + K2 + 1, by simp, fun k hk => ?_⟩
   obtain ⟨k, rfl⟩ : ∃ m, k = m + 1 := ⟨k - 1, by omega⟩
   refine ⟨?_, ?_⟩
   ·rw [spec_Cheapest.l0, if_pos (by omega), h2 k (by omega), Option.bind_some, if_pos (by omega), if_pos (by omega)]
   ·rw [impl_Cheapest.l0, if_pos (by omega), h1 k (by omega), Option.bind_some, if_pos (by omega), if_pos c]
  ·have hlt : rd dS ((1 : Nat) : Int) < 1152921504606846976 := by
    rcases hL.fin 1 (by omega) with e | ⟨e, _⟩
    ·exact absurd e c
    ·exact e
   have hP : Ph n l f dS q 1 [] f := ⟨rfl, ⟨by omega, hlt⟩, fun s hs => absurd hs (by simp), fun i hi => .inl rfl, fun z => by rw [show ((1 : Nat) : Int) = 1 from rfl]; omega, [1], by simp, by simp, fun z hz => by
    rw [List.mem_singleton.mp hz]
    exact ⟨by omega, Int.le_refl _⟩⟩
   obtain ⟨P', g', c1, c2, w1, w2, w3⟩ := ph_walk hN f h.len h.fl q hq _ hR (by omega) hL (sz : Int) (kx : Int) ((sz : Int) - (kx : Int)) f (mm dS q ((1 : Nat) : Int) - mm dS q 0).toNat 1 [] f (by omega) hP
   have hnx := finv_next hN h (by omega) hq hR hL w1
   obtain ⟨r, K3, hr, h3⟩ := ch_l0 sz hsz e (kx + 1) g' (by omega) hnx
   have hpl := ph_len hN f h.len h.fl q hq _ hR (by omega) hL w1
   have hpush := push_l3 hN f h.len h.fl q hq _ hR (by omega) hL ((sz : Int) - (kx : Int)) (grp (stFrom l) n.toNat (stps l.length)) (grp (stTo l) n.toNat (stps l.length)) P' w1.steps (by omega) P'.length 0 f (by omega) h.len
   rw [List.drop_zero, ← w1.fold, w64 (x := (sz : Int) - (kx : Int) - 1) (by omega) (by omega), show (sz : Int) - (kx : Int) - 1 = (sz : Int) - ((kx + 1 : Nat) : Int) by omega] at hpush
   rw [wsucc kx (by omega)] at w2
   refine ⟨r, K1 + K2 + K3 + c1 + c2 + P'.length + 2 * l.length + 5, hr, fun k hk => ⟨?_, ?_⟩⟩
   ·obtain ⟨k, rfl⟩ : ∃ m, k = (m + c1) + 1 := ⟨k - c1 - 1, by omega⟩
    rw [spec_Cheapest.l0, if_pos (by omega), h2 _ (by omega), Option.bind_some, if_pos (by omega), if_neg (by have h9 := hlt; rw [show ((1 : Nat) : Int) = 1 from rfl] at h9; omega), Option.bind_some, if_pos (by simp only [List.length_nil]; rw [h.len]; omega), List.nil_append]
    have := w2 k (by omega)
    rw [List.length_nil] at this
    exact this.trans (h3 k (by omega)).1
   ·obtain ⟨k, rfl⟩ : ∃ m, k = ((m + P'.length + 1) + c2) + 1 := ⟨k - P'.length - c2 - 2, by omega⟩
    rw [impl_Cheapest.l0, if_pos (by omega), h1 _ (by omega), Option.bind_some, if_pos (by omega), if_neg c]
    exact (w3 (k + P'.length + 1)).trans ((hpush k).trans (h3 k (by omega)).2)
end
theorem cheapest_ev (n : Int) (l : List AI) (hl : l.length ≤ 1048576) (sz : Int) : ∃ r K, r.1.length ≤ 3200 ∧ ∀ k, K ≤ k → spec_Cheapest.f k n l sz = some r ∧ impl_Cheapest.f k n l sz = some r := by
 obtain ⟨g, K1, h1, h2⟩ := net_ev n l hl
 cases g with
 | false =>
  refine ⟨([], 0, false), K1 + 2, by simp, fun k hk => ?_⟩
  have e1 := h1 k (by omega)
  obtain ⟨k, rfl⟩ : ∃ m, k = m + 1 := ⟨k - 1, by omega⟩
  unfold spec_Cheapest.f impl_Cheapest.f
  rw [e1.1, e1.2, Option.bind_some, Option.bind_some, if_neg (by decide), if_neg (by decide), spec_Cheapest.j0, impl_Cheapest.j0, if_pos rfl, if_pos rfl]
  exact ⟨rfl, rfl⟩
 | true =>
  have hN : Nok n l := h2.mp rfl
  have hn := hN.1
  have hl2 := hN.2.1
  by_cases c : 0 ≤ sz ∧ sz ≤ 16
  ·obtain ⟨sz, rfl⟩ := Int.eq_ofNat_of_zero_le c.1
   obtain ⟨r, K2, hr, h3⟩ := ch_l0 hN sz (by omega) sz 0 (List.replicate l.length 0) (by omega) (finv_zero hN)
   obtain ⟨K3, h4⟩ := so_ev hN
   refine ⟨r, K1 + K2 + K3 + 2, hr, fun k hk => ?_⟩
   have e1 := h1 k (by omega)
   obtain ⟨k, rfl⟩ : ∃ m, k = m + 1 := ⟨k - 1, by omega⟩
   have e3 := h3 k (by omega)
   rw [show ((0 : Nat) : Int) = 0 from rfl, Int.sub_zero] at e3
   refine ⟨?_, ?_⟩
   ·unfold spec_Cheapest.f
    rw [e1.1, Option.bind_some, if_pos rfl, l01In_eq, Option.bind_some, decide_eq_true c, spec_Cheapest.j0, if_neg (by decide), if_pos (by omega), if_pos (by omega), Int.toNat_natCast]
    exact e3.1
   ·unfold impl_Cheapest.f
    rw [e1.2, Option.bind_some, if_pos rfl, if_neg (by omega), decide_eq_false (by omega), impl_Cheapest.j0, if_neg (by decide), h4 k (by omega), Option.bind_some, if_pos (by omega), if_pos (by omega), Int.toNat_natCast]
    exact e3.2
  ·refine ⟨([], 0, false), K1 + 2, by simp, fun k hk => ?_⟩
   have e1 := h1 k (by omega)
   obtain ⟨k, rfl⟩ : ∃ m, k = m + 1 := ⟨k - 1, by omega⟩
   refine ⟨?_, ?_⟩
   ·unfold spec_Cheapest.f
    rw [e1.1, Option.bind_some, if_pos rfl, l01In_eq, Option.bind_some, decide_eq_false c, spec_Cheapest.j0, if_pos (by decide)]
   ·unfold impl_Cheapest.f
    rw [e1.2, Option.bind_some, if_pos rfl]
    by_cases c2 : sz < 0
    ·rw [if_pos c2, impl_Cheapest.j0, if_pos rfl]
    ·rw [if_neg c2, decide_eq_true (by omega), impl_Cheapest.j0, if_pos rfl]
end Go.Proofs.Ytkdemainohfgfaa.Pure
/- The law's helpers over nets. -/
namespace Go.Proofs.Ytkdemainohfgfaa.Pure
open Go.RowKit Go.Proofs.Ytkdemainohfgfaa.Q Go.Proofs.YtkdemainohfgfaaW.PrintWords Go.Proofs.YtkdemainohfgfaaW.PrintLast
abbrev AL := S77
def toA (x : AL) : AI := ⟨x.f0, x.f1, x.f2, x.f3⟩
theorem rdAL_get (l : List AL) (i : Nat) (h : i < l.length) : rd_T77 l (i : Int) = l[i] := by simp [rd_T77, h]
theorem szNet_eq (n : Int) (l : List AL) (hn : l.length ≤ 9223372036854775807) : laws_szNet.f n l 1048576 = some (if l.length ≤ 1048576 then 1048576 - (l.length : Int) else -1) := by
 unfold laws_szNet.f laws_szArcS.f
 rw [w64 (by omega) (by omega)]
 by_cases h : l.length ≤ 1048576
 ·rw [if_neg (by omega), if_pos h, Option.bind_some, if_neg (by omega)]
 ·rw [if_pos (by omega), if_neg h]; rfl
theorem toArcS_l0 (l : List AL) (hn : l.length ≤ 1048576) : ∀ (d i k : Nat) (out : List AI), out.length = l.length → i + d = l.length → (∀ j, j < i → out[j]? = (l.map toA)[j]?) → d < k →
  laws_toArcS.l0 k l out (i : Int) = some (l.map toA)
 | 0, i, k, out, ho, hi, hj, hk => by
  obtain ⟨k, rfl⟩ : ∃ m, k = m + 1 := ⟨k - 1, by omega⟩
  simp only [laws_toArcS.l0]
  rw [if_neg (by omega)]
  congr 1
  apply List.ext_getElem?
  intro j
  rcases Nat.lt_or_ge j l.length with h | h
  ·exact hj j (by omega)
  ·rw [List.getElem?_eq_none (by omega), List.getElem?_eq_none (by simp; omega)]
 | d + 1, i, k, out, ho, hi, hj, hk => by
  obtain ⟨k, rfl⟩ : ∃ m, k = m + 1 := ⟨k - 1, by omega⟩
  simp only [laws_toArcS.l0, laws_toArc.f, Option.bind_some]
  rw [if_pos (by omega), if_pos (by omega), if_pos (by omega), w64 (by omega) (by omega), show ((i : Int) + 1) = ((i + 1 : Nat) : Int) by omega]
  refine toArcS_l0 l hn d (i + 1) k _ (by simpa using ho) (by omega) (fun j hji => ?_) (by omega)
  rw [Int.toNat_natCast, rdAL_get l i (by omega), List.getElem?_set]
  by_cases e : i = j
  ·subst e
   rw [if_pos rfl, if_pos (by omega), List.getElem?_map, List.getElem?_eq_getElem (by omega)]
   rfl
  ·rw [if_neg e]
   exact hj j (by omega)
theorem toNet_ev (n : Int) (l : List AL) (hn : l.length ≤ 1048576) (k : Nat) (hk : l.length < k) : laws_toNet.f k n l = some (n, l.map toA) := by
 have h0 := toArcS_l0 l hn l.length 0 k (List.replicate ((l.length : Int)).toNat z53) (by simp) (by omega) (fun j hj => absurd hj (Nat.not_lt_zero _)) hk
 rw [show ((0 : Nat) : Int) = 0 from rfl] at h0
 unfold laws_toNet.f laws_toArcS.f
 rw [if_pos (by omega), if_pos (by omega), h0]
 rfl
theorem eqArcS_l0 (l : List AI) (hn : l.length ≤ 1048576) : ∀ (d i k : Nat), i + d = l.length → d < k → laws_eqArcS.l0 k l l (i : Int) = some true
 | 0, i, k, hi, hk => by
  obtain ⟨k, rfl⟩ : ∃ m, k = m + 1 := ⟨k - 1, by omega⟩
  simp only [laws_eqArcS.l0]
  rw [if_neg (by omega)]
 | d + 1, i, k, hi, hk => by
  obtain ⟨k, rfl⟩ : ∃ m, k = m + 1 := ⟨k - 1, by omega⟩
  simp only [laws_eqArcS.l0, laws_eqArc.f, reduceIte, Option.bind_some]
  rw [if_pos (by omega), if_pos (by omega), if_pos (by omega), w64 (by omega) (by omega), show ((i : Int) + 1) = ((i + 1 : Nat) : Int) by omega]
  exact eqArcS_l0 l hn d (i + 1) k (by omega) (by omega)
theorem eqNet_ev (n : Int) (l : List AI) (hn : l.length ≤ 1048576) (k : Nat) (hk : l.length < k) : laws_eqNet.f k n l n l = some true := by
 unfold laws_eqNet.f laws_eqArcS.f
 rw [if_pos rfl, if_pos rfl]
 have := eqArcS_l0 l hn l.length 0 k (by omega) hk
 rw [show ((0 : Nat) : Int) = 0 from rfl] at this
 rw [this]; rfl
end Go.Proofs.Ytkdemainohfgfaa.Pure
/- Plain facts about the law's helpers over whole numbers: what comparing answers. -/
namespace Go.Proofs.Ytkdemainohfgfaa.Pure
open Go.RowKit Go.Proofs.Ytkdemainohfgfaa.Q Go.Proofs.YtkdemainohfgfaaW.PrintWords Go.Proofs.YtkdemainohfgfaaW.PrintLast

theorem eqIntS_l0 (a b : List Int) (hl : a.length = b.length) (hn : a.length ≤ 9223372036854775807) : ∀ (d i k : Nat), i + d = a.length → d < k →
  laws_eqIntS.l0 k a b (i : Int) = some (decide (a.drop i = b.drop i))
 | 0, i, k, hi, hk => by
  obtain ⟨k, rfl⟩ : ∃ m, k = m + 1 := ⟨k - 1, by omega⟩
  simp only [laws_eqIntS.l0]
  rw [if_neg (by omega), List.drop_of_length_le (by omega), List.drop_of_length_le (by omega)]
  rfl
 | d + 1, i, k, hi, hk => by
  obtain ⟨k, rfl⟩ : ∃ m, k = m + 1 := ⟨k - 1, by omega⟩
  simp only [laws_eqIntS.l0]
  rw [if_pos (by omega), if_pos (by omega), if_pos (by omega), rd_get a i (by omega), rd_get b i (by omega), drop_cons a i (by omega), drop_cons b i (by omega), w64 (by omega) (by omega)]
  by_cases h : a[i]'(by omega) = b[i]'(by omega)
  ·rw [if_pos h, show ((i : Int) + 1) = ((i + 1 : Nat) : Int) by omega, eqIntS_l0 a b hl hn d (i + 1) k (by omega) (by omega)]
   simp only [h, List.cons.injEq, true_and]
  ·rw [if_neg h]
   simp only [List.cons.injEq, h, false_and, decide_false]
theorem eqIntS_ev (a b : List Int) (hn : a.length ≤ 9223372036854775807) : ∃ K, ∀ k, K ≤ k → laws_eqIntS.f k a b = some (decide (a = b)) := by
 refine ⟨a.length + 1, fun k hk => ?_⟩
 show laws_eqIntS.f k a b = some (decide (a = b))
 unfold laws_eqIntS.f
 by_cases h : a.length = b.length
 ·rw [if_pos (by omega)]
  have := eqIntS_l0 a b h hn a.length 0 k (by omega) (by omega)
  simpa using this
 ·rw [if_neg (by omega), decide_eq_false (fun e => h (by rw [e]))]
end Go.Proofs.Ytkdemainohfgfaa.Pure
/- Plain facts about the law's helpers over whole numbers: what marking and holding answer. -/
namespace Go.Proofs.Ytkdemainohfgfaa.Pure
open Go.RowKit Go.Proofs.Ytkdemainohfgfaa.Q Go.Proofs.YtkdemainohfgfaaW.PrintWords Go.Proofs.YtkdemainohfgfaaW.PrintLast

theorem markIntS_l0 : ∀ (d i k : Nat) (l : List Int) (m : Int), i + d = l.length → l.length ≤ 9223372036854775807 → 0 ≤ m → m + d ≤ 9223372036854775807 → d < k →
  laws_markIntS.l0 k l m (i : Int) = some (m + d, l.take i ++ iota m d)
 | 0, i, k, l, m, hi, hn, h0, hm, hk => by
  obtain ⟨k, rfl⟩ : ∃ m, k = m + 1 := ⟨k - 1, by omega⟩
  simp only [laws_markIntS.l0]
  rw [if_neg (by omega), List.take_of_length_le (by omega)]
  simp [iota]
 | d + 1, i, k, l, m, hi, hn, h0, hm, hk => by
  obtain ⟨k, rfl⟩ : ∃ m, k = m + 1 := ⟨k - 1, by omega⟩
  simp only [laws_markIntS.l0]
  rw [if_pos (by omega), if_pos (by omega), w64 (by omega) (by omega), w64 (by omega) (by omega), show ((i : Int) + 1) = ((i + 1 : Nat) : Int) by omega, Int.toNat_natCast,
   markIntS_l0 d (i + 1) k _ (m + 1) (by simp; omega) (by simpa using hn) (by omega) (by omega) (by omega)]
  have ht : (l.set i m).take (i + 1) = l.take i ++ [m] := by
   rw [List.take_succ_eq_append_getElem (by simp; omega)]
   simp [List.take_set_of_le]
  rw [ht, List.append_assoc]
  congr 1
  refine Prod.ext ?_ rfl
  show m + 1 + (d : Int) = m + ((d + 1 : Nat) : Int)
  omega
theorem markIntS_ev (l : List Int) (m : Int) (hn : l.length ≤ 9223372036854775807) (h0 : 0 ≤ m) (hm : m + l.length ≤ 9223372036854775807) : ∃ K, ∀ k, K ≤ k → laws_markIntS.f k l m = some (m + l.length, iota m l.length) := by
 refine ⟨l.length + 1, fun k hk => ?_⟩
 have := markIntS_l0 l.length 0 k l m (by omega) hn h0 hm (by omega)
 simpa [laws_markIntS.f] using this
theorem heldIntS_l0 (l : List Int) (hn : l.length ≤ 9223372036854775807) : ∀ (d i k : Nat) (q : Int), i + d = l.length → l.drop i = iota q d → 0 ≤ q → q + d ≤ 9223372036854775807 → d < k →
  laws_heldIntS.l0 k l q (i : Int) = some (q + d)
 | 0, i, k, q, hi, he, h0, hm, hk => by
  obtain ⟨k, rfl⟩ : ∃ m, k = m + 1 := ⟨k - 1, by omega⟩
  simp only [laws_heldIntS.l0]
  rw [if_neg (by omega)]
  simp
 | d + 1, i, k, q, hi, he, h0, hm, hk => by
  obtain ⟨k, rfl⟩ : ∃ m, k = m + 1 := ⟨k - 1, by omega⟩
  rw [drop_cons l i (by omega), iota] at he
  injection he with he1 he2
  simp only [laws_heldIntS.l0]
  rw [if_pos (by omega), if_pos (by omega), rd_get l i (by omega), if_pos he1, w64 (by omega) (by omega), w64 (by omega) (by omega), show ((i : Int) + 1) = ((i + 1 : Nat) : Int) by omega,
   heldIntS_l0 l hn d (i + 1) k (q + 1) (by omega) he2 (by omega) (by omega) (by omega)]
  congr 1
  omega
theorem heldIntS_ev (n : Nat) (q : Int) (hn : n ≤ 9223372036854775807) (h0 : 0 ≤ q) (hm : q + n ≤ 9223372036854775807) : ∃ K, ∀ k, K ≤ k → laws_heldIntS.f k (iota q n) q = some (q + n) := by
 refine ⟨n + 1, fun k hk => ?_⟩
 have := heldIntS_l0 (iota q n) (by rw [iota_length]; exact hn) n 0 k q (by rw [iota_length]; omega) rfl h0 hm (by omega)
 simpa [laws_heldIntS.f] using this
end Go.Proofs.Ytkdemainohfgfaa.Pure
/- Marks in a net. -/
namespace Go.Proofs.Ytkdemainohfgfaa.Pure
open Go.RowKit Go.Proofs.Ytkdemainohfgfaa.Q Go.Proofs.YtkdemainohfgfaaW.PrintWords Go.Proofs.YtkdemainohfgfaaW.PrintLast
def mk4 (l : List AI) (i : Nat) (m : Int) : List AI :=
 let l1 := l.set i (⟨m, (rd_T53 l (i : Int)).f1, (rd_T53 l (i : Int)).f2, (rd_T53 l (i : Int)).f3⟩ : AI)
 let l2 := l1.set i (⟨(rd_T53 l1 (i : Int)).f0, m + 1, (rd_T53 l1 (i : Int)).f2, (rd_T53 l1 (i : Int)).f3⟩ : AI)
 let l3 := l2.set i (⟨(rd_T53 l2 (i : Int)).f0, (rd_T53 l2 (i : Int)).f1, m + 2, (rd_T53 l2 (i : Int)).f3⟩ : AI)
 l3.set i (⟨(rd_T53 l3 (i : Int)).f0, (rd_T53 l3 (i : Int)).f1, (rd_T53 l3 (i : Int)).f2, m + 3⟩ : AI)
theorem markArcS_l0 : ∀ (d i : Nat) (l : List AI) (m : Int), i + d = l.length → l.length ≤ 1048576 → 0 ≤ m → m + 4 * d ≤ 100000000 → ∃ x K, ∀ k, K ≤ k → laws_markArcS.l0 k l m (i : Int) = some (m + 4 * d, x)
 | 0, i, l, m, hi, hl, h0, hm => by
  refine ⟨l, 1, fun k hk => ?_⟩
  obtain ⟨k, rfl⟩ : ∃ m, k = m + 1 := ⟨k - 1, by omega⟩
  rw [laws_markArcS.l0, if_neg (by omega)]
  simp
 | d + 1, i, l, m, hi, hl, h0, hm => by
  have e1 : wrap64 (m + 1) = m + 1 := w64 (by omega) (by omega)
  have e2 : wrap64 (m + 1 + 1) = m + 2 := by rw [w64 (by omega) (by omega)]; omega
  have e3 : wrap64 (m + 2 + 1) = m + 3 := by rw [w64 (by omega) (by omega)]; omega
  have e4 : wrap64 (m + 3 + 1) = m + 4 := by rw [w64 (by omega) (by omega)]; omega
  have e9 : wrap64 ((i : Int) + 1) = ((i + 1 : Nat) : Int) := w64 (by omega) (by omega)
  have hstep : ∀ k, laws_markArcS.l0 (k + 1) l m (i : Int) = laws_markArcS.l0 k (mk4 l i m) (m + 4) ((i + 1 : Nat) : Int) := fun k => by
   rw [laws_markArcS.l0, if_pos (by omega), if_pos (by omega), Option.bind_some, Option.bind_some, Option.bind_some, Int.toNat_natCast, e1, e2, e3, e4, e9]
   rfl
  have hl' : (mk4 l i m).length = l.length := by simp [mk4]
  clear e1 e2 e3 e4 e9
  obtain ⟨x, K, h⟩ := markArcS_l0 d (i + 1) (mk4 l i m) (m + 4) (by omega) (by omega) (by omega) (by omega)
  refine ⟨x, K + 1, fun k hk => ?_⟩
  obtain ⟨k, rfl⟩ : ∃ m, k = m + 1 := ⟨k - 1, by omega⟩
  rw [hstep k, h k (by omega), show m + 4 + 4 * (d : Int) = m + 4 * ((d + 1 : Nat) : Int) by omega]
theorem markNet_ev (n : Int) (l : List AI) (hl : l.length ≤ 1048576) : ∃ x K, ∀ k, K ≤ k → laws_markNet.f k n l 1 = some (1 + 4 * (l.length : Int), x) := by
 obtain ⟨x, K, h⟩ := markArcS_l0 l.length 0 l 1 (by omega) hl (by omega) (by omega)
 refine ⟨x, K, fun k hk => ?_⟩
 unfold laws_markNet.f laws_markArcS.f
 have := h k hk
 rw [show ((0 : Nat) : Int) = 0 from rfl] at this
 rw [this]; rfl
end Go.Proofs.Ytkdemainohfgfaa.Pure
